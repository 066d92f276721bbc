/- For screads_law_holds. -/
import Derived.Test.YtgeihgombjbkbaaGreatSrb30
set_option maxHeartbeats 16000000
set_option maxRecDepth 100000
namespace Go.Proofs.Own
open Go Go.RowKit
section
variable {P:Program} {Q:Exit->Act->World->Prop} {k8:KB} {F:World->Bx->Prop} {s:St} {k:List KF} {b rb:Nat} {w0 w w':World} {R Z R' Z':World->Prop} {e:TypeId} {sz:Nat} {v:Value} {rs:List (List Value)} {L:Bx}
theorem aKL (f:Fr (fun _=>False) w0 w L R)(hb:Below w.heap.size w w')(e:TypeId)(sz:Nat)(hbs:w.heap.size<=b)(hlt:b<w'.heap.size)(hrl:rb<w'.heap.size)(hne:∀p ∈ L,p.1≠rb)
  (hz:∀U:Nat->Prop,¬U b -> ¬U rb->Sf U w' Z'):FrD b rb w0 (fun _=>True) Z' e sz (.slice none 0 0) [] w' L:=by
 have hw:=f.bel.size;have hr:∀k,k ∈ L.map (·.1)->w0.heap.size<=k/\k<w.heap.size/\k≠rb:=fun k hk=>by
  obtain⟨p,hp,rfl⟩:=List.mem_map.1 hk;exact⟨(f.rng p hp).1,(f.rng p hp).2,hne p hp⟩
 refine⟨fun i p hp=>(f.box i p hp).below hb,f.inj,fun k hk=>?_,⟨hlt,hrl⟩,?_,dM.nil _ _ _ _,nofun,fun _ _=>trivial,?_⟩
 ·have:=hr k hk;exact⟨this.1,by omega,this.2.2⟩
 ·exact Kept.aM (f.bel.trans (hb.mono hw)) (fun k h1 h2=>by omega)
 ·refine hz _ (fun h=>?_) (fun h=>?_)
  ·rcases h with h|h
   ·cases h
   ·have:=hr _ h;omega
  ·rcases h with h|h
   ·cases h
   ·exact(hr _ h).2.2 rfl
theorem bIe {bx:List (List AV)}(F2:World->Bx->Prop){c:Cf}(h1:∀B w,F w (mkB B 0 s.bx)->F2 w (mkB B 0 bx))(h:Ok P Q F2 c ⟨s.tm,bx⟩ k)(hc:aHu c=true:=by rfl):Ok P Q F c s k:=fun B w H=>by
 have q:=h B w (h1 B w H);cases c with
 | code c=>exact q
 | ops l r=>exact q
 | ex e=>exact q
 | pl=>cases hc
 | hd=>cases hc
def Hd (b0:Nat)(F:World->Bx->Prop):World->Bx->Prop:=fun w L=>F w L/\L.head?.map (·.1)=some b0
theorem Hd.frm {b0:Nat}(h:Frm F k8):Frm (Hd b0 F) k8:=by
 refine⟨fun H _ _ hi=>h.box H.1 hi,fun {w L} H {i b o c vs} hi hl h8 hr=>⟨h.set H.1 hi hl h8 hr,?_⟩,fun {w L} H {c t} h8=>⟨h.new H.1 h8,?_⟩,fun H=>⟨h.drew H.1,H.2⟩⟩
 ·have h2:=H.2;cases L with
  | nil=>cases hi
  | cons p L =>
   cases i with
   | zero=>cases hi;exact h2
   | succ i=>exact h2
 ·have h2:=H.2;cases L with
  | nil=>cases h2
  | cons p L=>exact h2
theorem aI8 {c:Cf}(j:Nat)(a:AV)(hk:Ok P Q F c ⟨setN s.tm j a,s.bx⟩ k)(h:∀B,(getT s.tm j).den B=a.den B:=by intro B;rfl):bJ P Q F k8 (.at c s k):=aKE j a h hk
theorem bIk {c:Code}(h:Ok P (Exit.noGoto Q) F (.code c) s []):bJ P Q F k8 (.at (.code (.scope c)) s []):=fun B w H=>wp_scope_straight (h B w H)
theorem aH {tt:TypeId->Option TI}{fs:FuncId->Bool}(E:Env P Q tt fs):Env P (Exit.noGoto Q) tt fs:=⟨E.tt,E.mix,fun c a t w h=>E.pan c a t w h,E.fs⟩
theorem mA {tt:TypeId->Option TI}{fs:FuncId->Bool}{fn:Func}{Rp:Ending->World->Prop}(E:Env P (bodyPost P fn Rp) tt fs)(hF:Frm F k8){e:Ex}{r:List AV}(h:∀B w,F w (mkB B 0 s.bx)->Rp (.returned ((resV r).den B)) w)(he:e = .ret\/e = .n:=by first|exact .inl rfl|exact .inr rfl)(hr:resL tt s fn.results.toList=some r:=by cbv):bJ P (Exit.noGoto (bodyPost P fn Rp)) F k8 (.fin e s):=fun B w H=>by
 have q:=aHa E.tt hF he hr h B w H;rcases he with rfl|rfl
 ·exact q
 ·exact q
theorem fI {w:World}{b o d:Nat}{cs sub:List Value}(h:w.rangeAt b o cs)(hs:(cs.drop d).take sub.length=sub):w.rangeAt b (o+d) sub:=fun j v hv=>by
 rw[<- hs,List.getElem?_take]at hv;split at hv
 ·rw[List.getElem?_drop]at hv;have:=h (d+j) v hv
  rwa [<- Nat.add_assoc]at this
 ·cases hv
theorem aJO {t e2:TypeId}{N sz2:Nat}{ps:Array (Nat × Operand)}{l:List Oper}{J j:Nat}{m:List Bool}{bx:List (List AV)}{ok:Bool}{st:List Stg}{o:Oper}{ie:TypeInfo}{z:Value}(q:List AV)
  (h:∀(b0 bb:Nat),Ok P Q (Hd b0 (FrD b rb w0 (fun u=>u.rangeAt bb 0 (AV.denL (fun _=>b0) q)/\R u) Z e sz v rs)) (.pl l J m bx ok st) (s.put o.dst (.sl (fun _=>some ⟨bb,0,none⟩) (fun _=>N) (fun _=>N))) k)
  (hie:P.info? e2=some ie) (hz:ie.zero=some z) (hsz:ie.size=sz2) (hu:P.underlying t=some (.slice e2))
  (hj:getN l j=some o:=by rfl) (ho:o.op = .buildSlice t N ps:=by rfl)
  (hf:∀B,Instr.fill (fun i=>some (i*sz2,sz2)) ((Array.range (N*sz2)).map (z.cells[· % z.cells.size]!)) (ps.map fun (i,x)=>(i,(s.act B).eval x)).toList=some (AV.denL B q).toArray:=by intro B;kernel_rfl) (hq:AV.wfL 1 q=true:=by rfl) (hbx:∃c r,s.bx=c::r:=by exact⟨_,_,rfl⟩)
  (hN:Nat.ble (N*sz2) 16777216=true:=by rfl) (hN0:Nat.ble 1 (N*sz2)=true:=by rfl) (hw:wantA l s o=some true:=by rfl) (hJ:J.testBit j=false:=by rfl) :
  bJ P Q (FrD b rb w0 R Z e sz v rs) k8 (.at (.pl l J m bx ok (.o j::st)) s k):=fun B w F S ha=>by
 have g1:(l.drop j).take 1 = [o]:=by
  rw[dT]at hj;obtain⟨hl,he⟩:=List.getElem?_eq_some_iff.1 hj;rw[List.drop_eq_getElem_cons hl,he];rfl
 have hN:=Nat.le_of_ble_eq_true hN;have hN0:=Nat.le_of_ble_eq_true hN0;refine lP ?_;rw[g1];refine wpList_on (want_den hw) (wp_buildSlice t e2 N ps ho (AV.denL B q).toArray ie z hu hie hz (by rw[hsz];omega) (by rw[hsz];omega) (by rw[hsz];exact hf B) ?_);refine wpList_nil (gM (fun e=>by rw[hJ]at e;cases e) ?_);have hb:Below w.heap.size w (w.alloc (.cells (AV.denL B q).toArray e2)):=(Below.refl _ _).alloc (Nat.le_refl _) _;have hd:AV.denL B q=AV.denL (fun _=>B 0) q:=AV.cS (n:=1) (fun i hi=>by rw[show i=0 by omega]) q hq;have hbn:=Box.new (w:=w) (c:=AV.denL B q) (t:=e2);have F':=F.gG hb (R':=fun u=>u.rangeAt w.heap.size 0 (AV.denL (fun _=>B 0) q)) fun u ku=>by
  rw[<- hd];intro i y hi;rw[Nat.zero_add];exact((hbn.kept ku (by simp)).2 i y hi).1
 have hh:Hd (B 0) (FrD b rb w0 (fun u=>u.rangeAt w.heap.size 0 (AV.denL (fun _=>B 0) q)/\R u) Z e sz v rs) (w.alloc (.cells (AV.denL B q).toArray e2)) (mkB B 0 s.bx):=⟨F',by
  obtain⟨c,r,e⟩:=hbx;rw[e];rfl⟩
 have:=h (B 0) w.heap.size B _ (by cases o.dst<;>exact hh) S (by cases o.dst<;>exact ha);rw[St.cO]at this;exact this
end
end Go.Proofs.Own
namespace Go.Proofs.YtgeihgombjbkbaaGreat
open Go.RowKit Go.Maps Go.Proofs.Own
theorem Bytes.blk {w:World}{v:Value}{l:List Nat}(h:Bytes w v l)(h0:l ≠ []):∃rb,v.ownBlock=some rb/\rb<w.heap.size /\ ∃j x,w.cell? ⟨rb,j,none⟩=some (.int .u8 x):=by
 obtain⟨a,c,e,hc⟩:=h.rd;obtain⟨b,o,rfl,h1⟩:=hc 0 (by rw[aE];exact List.length_pos_iff.2 h0);subst e;exact⟨b,rfl,World.block_lt_of_cell? _ _ h1,_,_,h1⟩
theorem kQ {b rb b0:Nat}{w0:World}{R:World->Prop}{e:TypeId}{sz:Nat}{v:Value}{rs:List (List Value)}{Q:Exit->Act->World->Prop}{k8:KB}{s:St}{k:List KF}{c:Cf}{dst:Option Tmp}{t:RS}(m:Nat)(M:Int)(hM:M=(m:Int))(hm:(m:Int)<18446744073709551616)(h:Ok Tryz.prog Q (Hd b0 (FrD b rb w0 R (Rz b rb (nS m t)) e sz v rs)) c (s.put dst (.i .u64 (.x fun _=>(aB m t.1:Nat)))) k) :
  bJ Tryz.prog Q (Hd b0 (FrD b rb w0 R (Rz b rb t) e sz v rs)) k8 (.call 23 [.pa (fun _=>⟨b,0,none⟩),.i .u64 (.l M)] dst c s k):=fun B w F=>by
 subst hM;refine(nW b m t.1 t.2 w F.1.z (by omega) hm).mono ?_;rintro e w' ⟨rfl,h1,h2⟩;rw[Int.toNat_natCast]at *
 exact⟨_,_,rfl,(Hd.frm fd).b,⟨F.1.rd h2 (dZ (t:=nS m t) h1),F.2⟩,h⟩
theorem mU {w0 w:World}{R:World->Prop}{L:Bx}(F:Own.Fn (fun _=>False) w0 w L R){v:Value}{l:List Nat}(hB:Bytes w v l){r0:Nat}(hr0:r0<w0.heap.size):∃rb,(l = []\/v.ownBlock=some rb)/\rb<w.heap.size /\ ∀p ∈ L,p.1≠rb:=by
 by_cases h0:l = []
 ·refine⟨r0,.inl h0,Nat.lt_of_lt_of_le hr0 F.bel.size,fun p hp e=>?_⟩;have:=(F.rng p hp).1;omega
 ·obtain⟨rb,h1,h2,j,x,h3⟩:=hB.blk h0;refine⟨rb,.inr h1,h2,fun p hp e=>?_⟩;exact F.n8 p hp j x (e ▸ h3)
theorem aKH {w0 w:World}{R:World->Prop}{L:Bx}{b rb:Nat}{v:Value}{l:List Nat}{bad:Bool}(e:TypeId)(sz:Nat)(f:Own.Fn (fun _=>False) w0 w (L ++ [(b,[v,.bool bad])]) R)(hB:Bytes w v l)(hv:l = []\/v.ownBlock=some rb)(hrl:rb<w.heap.size)(hne:∀p ∈ L ++ [(b,[v,.bool bad])],p.1≠rb):FrD b rb w0 (fun _=>True) (Rz b rb (l,bad)) e sz (.slice none 0 0) [] w L:=by
 have hw:=f.bel.size;have hi:(L ++ [(b,[v,Value.bool bad])])[L.length]? = some (b,[v,.bool bad]):=by simp
 have hbx:=f.box _ _ hi;have hb:=(f.rng _ (List.mem_of_getElem? hi)).1;have hnb:rb≠b:=fun h=>hne _ (List.mem_of_getElem? hi) h.symm;have hr:∀k,k ∈ L.map (·.1)->w0.heap.size<=k/\k<w.heap.size/\k≠b/\k≠rb:=fun k hk=>by
  obtain⟨p,hp,rfl⟩:=List.mem_map.1 hk;have h1:=f.rng p (List.mem_append_left _ hp);obtain⟨j,hj⟩:=List.getElem?_of_mem hp;have hjl:=(List.getElem?_eq_some_iff.1 hj).1;refine⟨h1.1,h1.2,fun h=>?_,hne p (List.mem_append_left _ hp)⟩;have:=f.inj j L.length p _ (by rw[List.getElem?_append_left hjl];exact hj) hi h;omega
 have hrd:aF w b rb l bad:=⟨⟨v,(hbx.2 0 v rfl).1,hB,hv⟩,hnb,(hbx.2 1 _ rfl).1,(hbx.2 0 v rfl).2,(hbx.2 1 _ rfl).2⟩;refine⟨fun i p hp=>f.box i p (by rw[List.getElem?_append_left (List.getElem?_eq_some_iff.1 hp).1];exact hp),fun i j p q hp hq=>f.inj i j p q (by rw[List.getElem?_append_left (List.getElem?_eq_some_iff.1 hp).1];exact hp) (by rw[List.getElem?_append_left (List.getElem?_eq_some_iff.1 hq).1];exact hq),fun k hk=>?_,⟨hbx.1,hrl⟩,Kept.aM f.bel (fun k h1 h2=>by omega),dM.nil _ _ _ _,nofun,fun _ _=>trivial,dZ (t:=(l,bad)) hrd _ (fun h=>?_) (fun h=>?_)⟩
 ·have:=hr k hk;exact⟨this.1,this.2.2⟩
 ·rcases h with h|h
  ·cases h
  ·exact(hr _ h).2.2.1 rfl
 ·rcases h with h|h
  ·cases h
  ·exact(hr _ h).2.2.2 rfl
theorem pE (B:Nat->Nat)(a:cD)(A:dN):AV.denL B (eS a A)=eQ a A:=rfl
def actsR:Nat->RS->List cD × RS
 | 0,t=>([],t)
 | n+1,t=>if t.2=true then ([],t) else ((gC t).1::(actsR n (gC t).2).1,(actsR n (gC t).2).2)
theorem wD (n:Nat){t:RS}(h:t.2=true):actsR n t=([],t):=by
 cases n with
 | zero=>rfl
 | succ n=>rw[actsR,if_pos h]
structure AI (n:Nat)(t0:RS) where
 j:Nat
 a:Option Addr
 c:Nat
 L:List (cD × dN)
 t:RS
 x:Nat->Value
 hj:j<=n
 hL:L.length=j
 inv:(L.map (·.1)++(actsR (n-j) t).1,(actsR (n-j) t).2)=actsR n t0
def AI.zero (n:Nat)(t0:RS)(x:Nat->Value):AI n t0:=⟨0,none,0,[],t0,x,Nat.zero_le _,rfl,rfl⟩
def AI.next {n:Nat}{t0:RS}(i:AI n t0)(h:i.j<n)(hb:i.t.2=false)(a1:cD)(t1:RS)(har:(a1,t1)=gC i.t)(A:dN)(a:Option Addr)(c:Nat)(x:Nat->Value):AI n t0:=⟨i.j+1,a,c,i.L ++ [(a1,A)],t1,x,h,by rw[List.length_append,i.hL];rfl,by
 have:=i.inv;rw[show n-i.j=(n-(i.j+1))+1 by omega,actsR,if_neg (by rw[hb];decide),<- har]at this;rw[<- this];simp⟩
def AIF (b rb:Nat)(w:World)(e:TypeId){n:Nat}{t0:RS}(i:AI n t0)(v:World)(L:Bx):Prop:=FrD b rb w (fun u=>(∀p ∈ i.L,bW u p.1 p.2)/\True) (Rz b rb i.t) e 19 (.slice i.a i.j i.c) (i.L.map fun p=>eQ p.1 p.2) v L
theorem AIF.zero {b rb:Nat}{w v:World}{e:TypeId}{n:Nat}{t0:RS}{L:Bx}(F:FrD b rb w (fun _=>True) (Rz b rb t0) e 19 (.slice none 0 0) [] v L)(x:Nat->Value):AIF b rb w e (AI.zero n t0 x) v L:=F.imp fun _ _=>⟨fun _ hp=>absurd hp List.not_mem_nil,trivial⟩
theorem AIF.next {b rb:Nat}{w v:World}{e:TypeId}{n:Nat}{t0:RS}{L:Bx}{i:AI n t0}{a1:cD}{t1:RS}{A:dN}{a:Option Addr}{c:Nat}(h:i.j<n)(hb:i.t.2=false)(har:(a1,t1)=gC i.t)
  (F:FrD b rb w (fun u=>bW u a1 A/\(∀p ∈ i.L,bW u p.1 p.2)/\True) (Rz b rb t1) e 19 (.slice a (i.j+1) c) ((i.L.map fun p=>eQ p.1 p.2) ++ [AV.denL (fun _=>0) (eS a1 A)]) v L) (x:Nat->Value):AIF b rb w e (i.next h hb a1 t1 har A a c x) v L:=by
 unfold AIF AI.next;simp only[List.map_append,List.map_cons,List.map_nil];rw[pE]at F;exact F.imp fun u h=>⟨fun p hp=>by
  rcases List.mem_append.1 hp with hp|hp
  ·exact h.2.1 p hp
  ·obtain rfl:=List.mem_singleton.1 hp;exact h.1,trivial⟩
theorem AI.last {n:Nat}{t0:RS}(i:AI n t0)(h:i.j=n\/i.t.2=true):i.L.map (·.1)=(actsR n t0).1/\i.t=(actsR n t0).2:=by
 have:=i.inv;rcases h with h|h
 ·rw[h,Nat.sub_self,actsR,List.append_nil]at this;rw[<- this];exact⟨rfl,rfl⟩
 ·rw[wD _ h,List.append_nil]at this;rw[<- this];exact⟨rfl,rfl⟩
def cf1 (t:RS):RS:=nS 7 t
def cf2 (t:RS):RS:=nS 7 (cf1 t)
def cf3 (t:RS):RS:=nS 64 (cf2 t)
def cf4 (t:RS):RS:=nS 64 (cf3 t)
def cf5 (t:RS):RS:=nS 48 (cf4 t)
def cf6 (t:RS):RS:=nS 1048576 (cf5 t)
def cf7 (t:RS):RS:=nS 200 (cf6 t)
def cf8 (t:RS):RS:=iS (cf7 t)
def cf9 (t:RS):List cD × RS:=actsR (aB 4096 (cf8 t).1) (nS 4096 (cf8 t))
def eC (t:RS):gP × RS:=(⟨⟨(aB 7 t.1:Nat),(aB 7 (cf1 t).1:Nat),(aB 64 (cf2 t).1:Nat),(aB 64 (cf3 t).1:Nat),(aB 48 (cf4 t).1:Nat),(aB 1048576 (cf5 t).1:Nat)⟩,(cf9 t).1,(aB 200 (cf6 t).1:Nat),eU (cf7 t).1⟩,(cf9 t).2)
def xT:gP:=⟨⟨0,0,0,0,0,0⟩,[],0,0⟩
def lA (l:List Nat):gP × Bool:=if gR (eC (l,false)).2.1 (eC (l,false)).2.2=0/\fW (eC (l,false)).1=true then ((eC (l,false)).1,true) else (xT,false)
instance (l:List Nat):Decidable (fK l):=inferInstanceAs (Decidable (_/\_))
def lB (f:List Nat):gP × Bool:=if fK f/\f.getD 1 0=6 then lA (aS f) else (xT,false)
theorem iD {l:List Nat}{r:gP × RS}(h:eC (l,false)=r)(hb:¬(gR r.2.1 r.2.2=0/\fW r.1=true)):lA l=(xT,false):=by subst h;rw[lA,if_neg hb]
theorem mV {l:List Nat}{r:gP × RS}(h:eC (l,false)=r)(hb:gR r.2.1 r.2.2=0/\fW r.1=true):lA l=(r.1,true):=by subst h;rw[lA,if_pos hb]
def jB (res:Bool->Value)(f:List Nat)(w:World):Ending->World->Prop:=fun e w'=>∃L a n c,e = .returned (.tuple #[.agg (pA (lB f).1 a n c).toArray,res (lB f).2])/\cF w' (lB f).1 L a n c/\Below w.heap.size w w'
theorem cF.zero (w:World):cF w xT [] none 0 0:=⟨bI.nil w,rfl⟩
theorem jB.bad {res:Bool->Value}{f:List Nat}{w w':World}(h:lB f=(xT,false))(hb:Below w.heap.size w w'):jB res f w (.returned (.tuple #[.agg (pA xT none 0 0).toArray,res false])) w':=by
 unfold jB;rw[h];exact⟨[],none,0,0,rfl,cF.zero w',hb⟩
theorem yN:cN Tryz.prog 26 76 19 216:=by
 obtain⟨i0,hi,hz0,hz1,hz2⟩:=info_parts (show (Tryz.prog.info? 76).map (fun i=>(i.zero,i.size,i.bytes))=some (some (.agg (AV.denL (fun _=>0) yL).toArray),19,216) by kernel_rfl);exact⟨Tryz.underlying26,⟨i0,_,hi,hz0,hz1,hz2,rfl⟩,by decide,by decide⟩
theorem pV:cN Tryz.prog 33 86 19 216:=by
 obtain⟨i0,hi,hz0,hz1,hz2⟩:=info_parts (show (Tryz.prog.info? 86).map (fun i=>(i.zero,i.size,i.bytes))=some (some (.agg (AV.denL (fun _=>0) yL).toArray),19,216) by kernel_rfl);exact⟨Tryz.underlying33,⟨i0,_,hi,hz0,hz1,hz2,rfl⟩,by decide,by decide⟩
end Go.Proofs.YtgeihgombjbkbaaGreat
namespace Go.Proofs.YtgeihgombjbkbaaGreat
open Go.RowKit Go.Maps Go.Proofs.Own
def fT (z:Int):List Nat:=if z<0 then (128+(cA (-1-z).toNat).length)::cA (-1-z).toNat else bH z.toNat
def prW (s:aY):List Nat:=bH s.f.toNat++bH s.t.toNat
def eI (l:List aY):List Nat:=l.flatMap prW
def iH (l:List aY):List Nat:=bH l.length++eI l
def oT (k:fD):List Nat:=fT k.o++(iH k.w++iH k.c)
def oW (k:gI):List Nat:=bH k.c.toNat++(iH k.l++(bH k.r.toNat++bH k.b.toNat))
def gH (c:cQ):List Nat:=if c.k=2 then oT c.cal else if c.k=3 then oW c.tm else if c.k=4 then bH c.ct.toNat else if c.k=9 then fT c.at' else []
def lJ (c:cQ):List Nat:=bH c.k.toNat++(bH c.cl.toNat++(bH c.rq.toNat++((if idB c.k=true then bH c.id.toNat else [])++gH c)))
def gF (c:cQ):List Nat:=if c=fR then [] else lJ c
def mH (a:cD):List Nat:=bH a.k.toNat++(bH a.who.toNat++(bH a.to.toNat++(fT a.n++(bH a.id.toNat++((bH (gF a.com).length++gF a.com)++iH a.ts)))))
def eN (l:List cD):List Nat:=l.flatMap mH
def yT (c:rK)(r:Int):List Nat:=bH c.s.toNat++(bH c.m.toNat++(bH c.el.toNat++(bH c.bt.toNat++(bH c.ev.toNat++(bH c.rm.toNat++bH r.toNat)))))
def mK (s:gP):List Nat:=yT s.cfg s.rounds++(fT s.by'++(bH s.acts.length++eN s.acts))

theorem zA (n:Nat):∀ds:List Nat,ds.length=n->(∀c ∈ ds,c<256)->(0<ds.length->ds.getD 0 0≠0)->cA (beN ds)=ds:=by
 induction n with
 | zero=>intro ds h _ _;obtain rfl:=List.length_eq_zero_iff.1 h;exact fG
 | succ n ih =>
  intro ds h hb h0;obtain⟨c,es,rfl⟩:∃c es,ds=es ++ [c]:=⟨ds.getLast (by intro e;subst e;cases h),ds.dropLast,(List.dropLast_concat_getLast _).symm⟩;rw[List.length_append,List.length_singleton]at h;have hc:c<256:=hb c (by simp);have he:cA (beN es)=es:=ih es (by omega) (fun c hc=>hb c (List.mem_append_left _ hc)) fun hl=>by
   have:=h0 (by rw[List.length_append];omega)
   rwa [List.getD_eq_getElem?_getD,List.getElem?_append_left hl,<- List.getD_eq_getElem?_getD]at this
  have hne:beN (es ++ [c])≠0:=by
   rw[mZ];intro e;have e1:beN es=0:=by omega
   have e2:c=0:=by omega
   rw[e1,fG]at he;subst he e2;exact h0 (by simp) rfl
  rw[fF hne,mZ,show (beN es*256+c) / 256=beN es by omega,show (beN es*256+c) % 256=c by omega,he]
theorem pP {l:List Nat}(hb:∀c ∈ l,c<256)(h:¬cK l):l=bH (eR l)++l.drop (l.getD 0 0+1):=by
 unfold cK at h;cases l with
 | nil=>exact absurd (.inr (.inl (Nat.zero_le _))) h
 | cons a r =>
  simp only[List.getD_cons_zero,List.length_cons,List.getD_cons_succ,not_or,Nat.not_le]at h;have hl:(r.take a).length=a:=by rw[List.length_take];omega
  have hd:cA (beN (r.take a))=r.take a:=zA _ _ rfl (fun c hc=>hb c (List.mem_cons_of_mem _ (List.mem_of_mem_take hc))) fun h0 e=>h.2.2 ⟨by omega,by
   rw[List.getD_eq_getElem?_getD,List.getElem?_take,if_pos (by omega)]at e;rw[List.getD_eq_getElem?_getD];exact e⟩
  show a::r=bH (beN (r.take a))++r.drop a;rw[bH,hd,hl,List.cons_append,List.take_append_drop]
theorem aKS {m:Nat}{t:RS}(hb:∀c ∈ t.1,c<256)(h:(nS m t).2=false):t.2=false/\t.1=bH (aB m t.1)++(nS m t).1:=by
 unfold nS at h ⊢;simp only[Bool.or_eq_false_iff]at h;refine⟨h.1,?_⟩;have hg:cH m t.1:=by
  have:=h.2;unfold jJ at this;split at this
  ·assumption
  ·cases this
 simp only[aB,dX,if_pos hg];exact pP hb hg.1
theorem aWI {t:RS}(hb:∀c ∈ t.1,c<256)(h:(iS t).2=false):t.2=false/\t.1=fT (eU t.1)++(iS t).1:=by
 unfold iS at h ⊢;simp only[Bool.or_eq_false_iff]at h;refine⟨h.1,?_⟩;have hg:cH gZ (unm t.1):=by
  have:=h.2;unfold wU jJ at this;split at this
  ·assumption
  ·cases this
 generalize t.1=l at hb hg;have hub:∀c ∈ unm l,c<256:=by
  cases l with
  | nil=>intro c hc;cases hc
  | cons a r =>
   intro c hc;rcases List.mem_cons.1 hc with rfl|hc
   ·omega
   ·exact hb c (List.mem_cons_of_mem _ hc)
 have hs:=pP hub hg.1;have hm:sM gZ l=decide ((128:Int)<=(l.getD 0 0:Nat)):=by unfold sM;rw[if_pos hg]
 simp only[eU,uK,aB,dX,if_pos hg,hm];have hdr:(unm l).drop ((unm l).getD 0 0+1)=l.drop ((unm l).getD 0 0+1):=gW _ _;rw[hdr]at hs ⊢;cases l with
 | nil=>exact absurd (.inr (.inl (Nat.zero_le _))) hg.1
 | cons a r =>
  have ha:=hb a (List.mem_cons_self ..);have h8:¬8<a % 128:=fun h=>hg.1 (.inl h);simp only[List.getD_cons_zero];have hu:unm (a::r)=a % 128::r:=rfl;rw[hu]at hs ⊢;generalize eR (a % 128::r)=x at hs ⊢;simp only[List.getD_cons_zero,List.drop_succ_cons]at hs ⊢;rw[bH,List.cons_append]at hs;injection hs with h1 h2
  unfold fT;split
  ·rename_i hk;simp only[decide_eq_true_eq]at hk;rw[if_pos (by omega),show (-1-(-1-(x:Int))).toNat=x by omega,<- h1,List.cons_append,<- h2]
   congr 1
   omega
  ·rename_i hk;simp only[decide_eq_true_eq]at hk;rw[if_neg (by omega),Int.toNat_natCast,bH,<- h1,List.cons_append,<- h2]
   congr 1
   omega
theorem eH {m:Nat}{t:RS}(hb:∀c ∈ t.1,c<256):∀c ∈ (nS m t).1,c<256:=fun c hc=>hb c (gT hc)
theorem wT {t:RS}(hb:∀c ∈ t.1,c<256):∀c ∈ (iS t).1,c<256:=fun c hc=>hb c (uJ hc)
def Was (t u:RS)(l:List Nat):Prop:=(∀c ∈ t.1,c<256)->u.2=false->t.2=false/\t.1=l++u.1 /\ ∀c ∈ u.1,c<256
theorem Was.then {t u x:RS}{l m:List Nat}(h:Was t u l)(k:Was u x m)(hub:(∀c ∈ t.1,c<256) -> ∀c ∈ u.1,c<256):Was t x (l++m):=fun hb hx=>by
 obtain⟨k1,k2,k3⟩:=k (hub hb) hx;obtain⟨h1,h2,_⟩:=h hb k1;exact⟨h1,by rw[h2,k2,List.append_assoc],k3⟩
theorem bL (m:Nat)(t:RS):Was t (nS m t) (bH ((aB m t.1:Nat):Int).toNat):=fun hb h=>by
 rw[Int.toNat_natCast];exact⟨(aKS hb h).1,(aKS hb h).2,eH hb⟩
theorem mW (t:RS):Was t (iS t) (fT (eU t.1)):=fun hb h=>⟨(aWI hb h).1,(aWI hb h).2,wT hb⟩
theorem aId (m1 m2:Nat):∀n t,Was t (prS m1 m2 n t).2 (eI (prS m1 m2 n t).1)/\((∀c ∈ t.1,c<256) -> ∀c ∈ (prS m1 m2 n t).2.1,c<256)
 | 0,t=>⟨fun hb h=>⟨h,rfl,hb⟩,fun hb=>hb⟩
 | n+1,t=>by
  have ih:=aId m1 m2 n (nS m2 (nS m1 t));refine⟨?_,fun hb=>ih.2 (eH (eH hb))⟩;have:=((bL m1 t).then ((bL m2 (nS m1 t)).then ih.1 eH) eH);rw[<- List.append_assoc]at this;exact this
theorem mX (m m1 m2:Nat)(t:RS):Was t (prS m1 m2 (aB m t.1) (nS m t)).2 (iH (prS m1 m2 (aB m t.1) (nS m t)).1)/\((∀c ∈ t.1,c<256) -> ∀c ∈ (prS m1 m2 (aB m t.1) (nS m t)).2.1,c<256):=by
 have h:=aId m1 m2 (aB m t.1) (nS m t);refine⟨?_,fun hb=>h.2 (eH hb)⟩;have:=(bL m t).then h.1 eH;rw[iH,mT];exact this
theorem aJt (t:RS):Was t (dC t).2.1 (oT (dC t).1)/\((∀c ∈ t.1,c<256) -> ∀c ∈ (dC t).2.1.1,c<256):=by
 have h1:=mX 32 HZ HZ (iS t);have h2:=mX 32 HZ HZ (spS (iS t)).2;have h0:Was t (eT t).2 (oT (eT t).1):=(mW t).then (h1.1.then h2.1 h1.2) wT;have hb0:(∀c ∈ t.1,c<256) -> ∀c ∈ (eT t).2.1,c<256:=fun hb=>h2.2 (h1.2 (wT hb));unfold dC;split
 ·exact⟨fun _ h=>(by cases h),fun _ _ h=>(by cases h)⟩
 ·exact⟨h0,hb0⟩
theorem aJv (t:RS):Was t (cW t).2.1 (oW (cW t).1)/\((∀c ∈ t.1,c<256) -> ∀c ∈ (cW t).2.1.1,c<256):=by
 have h1:=mX 6 HZ 7 (nS 7 t);have h0:Was t (eO t).2 (oW (eO t).1):=(bL 7 t).then (h1.1.then ((bL 8 _).then (bL 1048576 _) eH) h1.2) eH;have hb0:(∀c ∈ t.1,c<256) -> ∀c ∈ (eO t).2.1,c<256:=fun hb=>eH (eH (h1.2 (eH hb)));unfold cW;split
 ·exact⟨fun _ h=>(by cases h),fun _ _ h=>(by cases h)⟩
 ·exact⟨h0,hb0⟩
theorem zD {t:RS}(h:gR t.1 t.2=0):t.2=false/\t.1 = []:=by
 unfold gR at h;split at h
 ·cases h
 ·rename_i k;simp only[not_or]at k;exact⟨by simpa using k.1,List.length_eq_zero_iff.1 (by omega)⟩
theorem mM {c:cQ}(h:bQ c=true):1<=c.k/\c.k<=12:=by
 unfold bQ cT at h;simp only[Bool.and_eq_true,decide_eq_true_eq]at h;exact h.1
theorem aHd {k:Int}(h1:1<=k)(h2:k<=12):idB k=true ↔ k≠1/\k≠9:=by
 unfold idB cT;simp only[Bool.and_eq_true,decide_eq_true_eq,Bool.not_eq_true',beq_eq_false_iff_ne];omega
theorem aJR {l:List Nat}(hb:∀c ∈ l,c<256)(h:(iG l).2=0):bQ (iG l).1=true/\l=lJ (iG l).1/\l.length<=2048:=by
 unfold iG at h ⊢;split
 ·rename_i k;rw[if_pos k]at h;cases h
 rename_i k0;rw[if_neg k0]at h;split
 case isFalse k=>rw[if_neg k]at h;cases h
 rename_i k;obtain⟨k1,k2⟩:=k;obtain⟨e1,e2⟩:=zD k1;refine⟨k2,?_,by omega⟩;have hk:=mM k2
 suffices H:Was (l,false) (bR l).2 (lJ (bR l).1) by
  have:=(H hb e1).2.1;rw[e2,List.append_nil]at this;exact this
 clear e1 e2 k1 k2 h k0;revert hk;have hh:∀x s,Was s x (gH (bR l).1)->True:=fun _ _ _=>trivial;clear hh;unfold bR;generalize hs3:nF l=s3;have hw3:∀x m,Was s3 x m->Was (l,false) x (bH ((aB 12 l:Nat):Int).toNat++(bH ((aB 8 (nS 12 (l,false)).1:Nat):Int).toNat++(bH ((aB ALL (nS 8 (nS 12 (l,false))).1:Nat):Int).toNat++m))):=fun x m h=>(bL 12 (l,false)).then ((bL 8 _).then ((bL ALL _).then (by rw[<- hs3]at h;exact h) eH) eH) eH;clear hs3;generalize ((aB 12 l:Nat):Int)=K at hw3 ⊢;generalize ((aB 8 (nS 12 (l,false)).1:Nat):Int)=cl at hw3 ⊢;generalize ((aB ALL (nS 8 (nS 12 (l,false))).1:Nat):Int)=rq at hw3 ⊢;unfold dK;split
 ·rename_i h2;intro _;refine hw3 _ _ ?_;show Was _ _ ((if idB K=true then _ else _)++gH _);rw[if_pos (by rw[h2];decide),gH,if_pos h2];exact(bL ALL s3).then (aJt _).1 eH
 rename_i h2;split
 ·rename_i h3;intro _;refine hw3 _ _ ?_;show Was _ _ ((if idB K=true then _ else _)++gH _);rw[if_pos (by rw[h3];decide),gH,if_neg h2,if_pos h3];exact(bL ALL s3).then (aJv _).1 eH
 rename_i h3;split
 ·rename_i h4;intro _;refine hw3 _ _ ?_;show Was _ _ ((if idB K=true then _ else _)++gH _);rw[if_pos (by rw[h4];decide),gH,if_neg h2,if_neg h3,if_pos h4];exact(bL ALL s3).then (bL 15 _) eH
 rename_i h4;split
 ·rename_i h9;intro _;refine hw3 _ _ ?_;show Was _ _ ((if idB K=true then _ else _)++gH _);rw[if_neg (by rw[h9];decide),gH,if_neg h2,if_neg h3,if_neg h4,if_pos h9];exact mW s3
 rename_i h9;split
 ·rename_i h1;intro _;refine hw3 _ _ ?_;show Was _ _ ((if idB K=true then _ else _)++gH _);rw[if_neg (by rw[h1];decide),gH,if_neg h2,if_neg h3,if_neg h4,if_neg h9];exact fun hb h=>⟨h,rfl,hb⟩
 ·rename_i h1;intro hk;refine hw3 _ _ ?_;show Was _ _ ((if idB K=true then _ else _)++gH _);rw[if_pos ((aHd hk.1 hk.2).2 ⟨h1,h9⟩),gH,if_neg h2,if_neg h3,if_neg h4,if_neg h9,List.append_nil];exact bL ALL s3
theorem aJw (t:RS):Was t (dJ t) (bH (dR 2048 t.1).length++dR 2048 t.1)/\((∀c ∈ t.1,c<256) -> ∀c ∈ (dJ t).1,c<256):=by
 refine⟨fun hb h=>?_,fun hb c hc=>?_⟩
 ·unfold dJ at h ⊢;simp only[jE,Bool.or_eq_false_iff]at h;obtain⟨h0,h1,h2⟩:=h;have hg:eE 2048 t.1:=by
   split at h2
   ·assumption
   ·cases h2
  have hn:=aKS (m:=2048) (t:=t) hb (by rw[nS];simp only[h0,h1,Bool.or_false]);simp only[iO,dR,if_pos hg];refine⟨h0,?_,fun c hc=>hb c (gT (m:=2048) (List.mem_of_mem_drop hc))⟩;have hl:((dX 2048 t.1).take (aB 2048 t.1)).length=aB 2048 t.1:=by rw[List.length_take];exact Nat.min_eq_left hg
  rw[hl,List.append_assoc,List.take_append_drop];exact hn.2
 ·unfold dJ iO at hc;simp only at hc;split at hc
  ·exact hb c (gT (m:=2048) (List.mem_of_mem_drop hc))
  ·cases hc
theorem yX {c:cQ}(h:bQ c=true):c≠fR:=fun e=>by
 have:=(mM h).1;rw[e]at this;exact absurd this (by decide)
theorem aJu (t:RS):Was t (fE t).2 (bH (gF (fE t).1).length++gF (fE t).1)/\((∀c ∈ t.1,c<256) -> ∀c ∈ (fE t).2.1,c<256):=by
 have ht:=aJw t;unfold fE;split
 ·rename_i h0;refine⟨?_,ht.2⟩;rw[h0]at ht;exact ht.1
 ·refine⟨fun hb h=>?_,fun hb c hc=>?_⟩
  ·simp only at h ⊢;split at h
   ·rename_i he;have hc:=aJR (fun c hc=>hb c (rJ c hc)) he;rw[gF,if_neg (yX hc.1),<- hc.2.1,if_pos he];exact ht.1 hb h
   ·cases h
  ·simp only at hc;split at hc
   ·exact ht.2 hb c hc
   ·cases hc
theorem aJs (t:RS):Was t (gC t).2 (mH (gC t).1)/\((∀c ∈ t.1,c<256) -> ∀c ∈ (gC t).2.1,c<256):=by
 have h1:=aJu (gA t);have h2:Was (fE (gA t)).2 (gX (fE (gA t)).2).2 (iH (gX (fE (gA t)).2).1)/\((∀c ∈ (fE (gA t)).2.1,c<256) -> ∀c ∈ (gX (fE (gA t)).2).2.1,c<256):=by
  unfold gX;exact mX 16 65535 4294967295 (fE (gA t)).2
 have hb5:(∀c ∈ t.1,c<256) -> ∀c ∈ (gA t).1,c<256:=fun hb=>eH (wT (eH (eH (eH hb))));have h5:∀x m,Was (gA t) x m->Was t x (bH ((aB 20 t.1:Nat):Int).toNat++(bH ((aB 8 (nS 20 t).1:Nat):Int).toNat++(bH ((aB 7 (nS 8 (nS 20 t)).1:Nat):Int).toNat++(fT (eU (nS 7 (nS 8 (nS 20 t))).1)++(bH ((aB ALL (iS (nS 7 (nS 8 (nS 20 t)))).1:Nat):Int).toNat++m))))):=fun x m h=>(bL 20 t).then ((bL 8 _).then ((bL 7 _).then ((mW _).then ((bL ALL _).then h eH) wT) eH) eH) eH;unfold gC mH;generalize gX (fE (gA t)).2=u at h2 ⊢;generalize fE (gA t)=v at h1 h2 ⊢;generalize gA t=s5 at h1 h2 h5 hb5 ⊢;exact⟨h5 _ _ (h1.1.then h2.1 h1.2),fun hb=>h2.2 (h1.2 (hb5 hb))⟩
theorem tX:∀n t,(actsR n t).1.length=n\/(actsR n t).2.2=true
 | 0,t=>.inl rfl
 | n+1,t=>by
  rw[actsR];split
  ·exact .inr (by assumption)
  ·rcases tX n (gC t).2 with h|h
   ·exact .inl (by simp[h])
   ·exact .inr h
theorem qE:∀n t,Was t (actsR n t).2 (eN (actsR n t).1)/\((∀c ∈ t.1,c<256) -> ∀c ∈ (actsR n t).2.1,c<256)
 | 0,t=>⟨fun hb h=>⟨h,rfl,hb⟩,fun hb=>hb⟩
 | n+1,t=>by
  rw[actsR];split
  ·exact⟨fun hb h=>⟨h,rfl,hb⟩,fun hb=>hb⟩
  ·have ih:=qE n (gC t).2;have ha:=aJs t;exact⟨ha.1.then ih.1 ha.2,fun hb=>ih.2 (ha.2 hb)⟩
theorem aKY {l:List Nat}(hb:∀c ∈ l,c<256)(h:(lA l).2=true):fW (lA l).1=true/\l=mK (lA l).1:=by
 unfold lA at h ⊢;split at h
 case isFalse=>cases h
 rename_i k;rw[if_pos k];obtain⟨k1,k2⟩:=k;obtain⟨e1,e2⟩:=zD k1;refine⟨k2,?_⟩
 suffices H:Was (l,false) (eC (l,false)).2 (mK (eC (l,false)).1) by
  have:=(H hb e1).2.1;rw[e2,List.append_nil]at this;exact this
 clear k1 k2 e2;have h7:∀x m,Was (cf7 (l,false)) x m->Was (l,false) x (yT ⟨(aB 7 l:Nat),(aB 7 (cf1 (l,false)).1:Nat),(aB 64 (cf2 (l,false)).1:Nat),(aB 64 (cf3 (l,false)).1:Nat),(aB 48 (cf4 (l,false)).1:Nat),(aB 1048576 (cf5 (l,false)).1:Nat)⟩ (aB 200 (cf6 (l,false)).1:Nat)++m):=fun x m h=>by
  unfold yT;simp only[List.append_assoc];exact(bL 7 _).then ((bL 7 _).then ((bL 64 _).then ((bL 64 _).then ((bL 48 _).then ((bL 1048576 _).then ((bL 200 _).then h eH) eH) eH) eH) eH) eH) eH
 have hA:Was (nS 4096 (cf8 (l,false))) (cf9 (l,false)).2 (eN (cf9 (l,false)).1):=by
  unfold cf9;exact(qE (aB 4096 (cf8 (l,false)).1) (nS 4096 (cf8 (l,false)))).1
 have hn:(cf9 (l,false)).1.length=aB 4096 (cf8 (l,false)).1:=by
  unfold eC at e1;unfold cf9 at e1 ⊢;dsimp only at e1;rcases tX (aB 4096 (cf8 (l,false)).1) (nS 4096 (cf8 (l,false))) with h|h
  ·exact h
  ·rw[h]at e1;cases e1
 have h8:Was (cf7 (l,false)) (cf9 (l,false)).2 (fT (eU (cf7 (l,false)).1)++(bH (cf9 (l,false)).1.length++eN (cf9 (l,false)).1)):=by
  rw[show (cf9 (l,false)).1.length=((aB 4096 (cf8 (l,false)).1:Nat):Int).toNat by rw[hn,Int.toNat_natCast]];have w8:Was (cf7 (l,false)) (cf8 (l,false)) (fT (eU (cf7 (l,false)).1)):=by unfold cf8;exact mW _
  have b8:(∀c ∈ (cf7 (l,false)).1,c<256) -> ∀c ∈ (cf8 (l,false)).1,c<256:=by unfold cf8;exact wT
  exact w8.then ((bL 4096 _).then hA eH) b8
 clear hA hn e1 h;unfold eC mK;generalize cf9 (l,false)=c9 at h8 ⊢;dsimp only;exact h7 _ _ h8
theorem xZ {f:List Nat}(hb:∀c ∈ f,c<256)(h:fK f):f=frP (f.getD 1 0) (aS f):=by
 obtain⟨h1,h2⟩:=h;unfold dA at h1;split at h1
 ·rename_i k;exact absurd h1 k
 rename_i k;have k:aZ f=0:=by simpa using k
 split at h1
 case isFalse=>cases h1
 rename_i hs;have h0:f.getD 0 0=102:=by
  unfold aZ at k;split at k;· omega
  split at k;· omega
  rename_i q;exact Classical.not_not.1 q
 have:=(qP hb k h0).2 hs;rw[h2,List.take_length]at this;exact this.symm
theorem aKZ {f:List Nat}(hb:∀c ∈ f,c<256)(h:(lB f).2=true):fW (lB f).1=true/\f=frP 6 (mK (lB f).1)/\(mK (lB f).1).length+8=f.length:=by
 unfold lB at h ⊢;split at h
 case isFalse=>cases h
 rename_i k;rw[if_pos k];have hb2:∀c ∈ aS f,c<256:=fun c hc=>hb c (List.mem_of_mem_take (List.mem_of_mem_drop hc));obtain⟨h1,h2⟩:=aKY hb2 h;have h3:=xZ hb k.1;rw[k.2]at h3;rw[<- h2];refine⟨h1,h3,?_⟩;unfold aS;rw[List.length_drop,List.length_take];have:=k.1.2;omega
end Go.Proofs.YtgeihgombjbkbaaGreat
namespace Go.Proofs.YtgeihgombjbkbaaGreat
open Go Go.RowKit Go.Maps Go.Proofs.Own

theorem dW.kept {w w':World}{a:Nat}{v:Value}{l:List Nat}{S:Nat->Prop}(h:dW w a v l)(hk:Kept w w' S)(h1:¬S a)(h2:∀k,v.ownBlock=some k -> ¬S k):dW w' a v l :=
 ⟨hk.cell h.c h1,h.own.kept hk h2,by rw[hk.frozen (a:=⟨a,0,none⟩) h.lt h1];exact h.fr⟩
structure FrW (b:Nat)(w0:World)(v0:Value)(R:World->Prop)(v:Value)(l:List Nat)(w:World)(L:Bx):Prop where
 box:∀(i:Nat) p,L[i]? = some p->Box w p
 inj:∀(i j:Nat) p q,L[i]? = some p->L[j]? = some q->p.1=q.1->i=j
 rng:∀k,k ∈ L.map (·.1)->w0.heap.size<=k/\k≠b/\v.ownBlock≠some k
 wr:dW w b v l
 gr:fC w0 w b v0 v
 s1:Sf (fun k=>k=b\/v.ownBlock=some k\/k ∈ L.map (·.1)) w R
section
variable {b:Nat} {w0 w w':World} {v0 v v':Value} {R R':World->Prop} {l l':List Nat} {L:Bx}
theorem FrW.start {w:World}(h:dW w b v l)(hR:∀u,Kept w u (fun k=>k=b\/v.ownBlock=some k)->R u):FrW b w v R v l w [] :=
 ⟨nofun,nofun,nofun,h,fC.refl _ _ _,fun u ku=>hR u (ku.mono fun _ _ hk=>hk.elim .inl fun h=>h.elim .inr nofun)⟩
theorem FrW.now (F:FrW b w0 v0 R v l w L):R w:=F.s1.now
theorem FrW.mem (F:FrW b w0 v0 R v l w L){k:Nat}(hk:k ∈ L.map (·.1)):k<w.heap.size:=by
 obtain⟨p,hp,rfl⟩:=List.mem_map.1 hk;obtain⟨i,hi⟩:=List.getElem?_of_mem hp;exact(F.box i p hi).lt
theorem FrW.imp (F:FrW b w0 v0 R v l w L)(h:∀u,R u->R' u):FrW b w0 v0 R' v l w L:=⟨F.box,F.inj,F.rng,F.wr,F.gr,F.s1.imp h⟩
theorem FrW.put (F:FrW b w0 v0 R v l w L)(hw:dW w' b v' l')(hg:fC w w' b v v'):FrW b w0 v0 R v' l' w' L:=by
 refine⟨fun i p hp=>(F.box i p hp).kept hg.kept ?_,F.inj,fun k hk=>⟨(F.rng k hk).1,(F.rng k hk).2.1,fun h=>?_⟩,hw,F.gr.trans hg,fun u ku=>F.s1 u (hg.kept.andThen ku fun k hl h=>?_)⟩
 ·have:=F.rng p.1 (List.mem_map.2 ⟨p,List.mem_of_getElem? hp,rfl⟩);exact fun h=>h.elim this.2.1 this.2.2
 ·rcases hg.at' k h with h|h
  ·exact(F.rng k hk).2.2 h
  ·have:=F.mem hk;omega
 ·rcases h with (h|h)|(h|h|h)
  ·exact .inl h
  ·exact .inr (.inl h)
  ·exact .inl h
  ·rcases hg.at' k h with h|h
   ·exact .inr (.inl h)
   ·omega
  ·exact .inr (.inr h)
theorem FrW.call (F:FrW b w0 v0 R v l w L)(hb:Below w.heap.size w w'):FrW b w0 v0 R v l w' L :=
 F.put (F.wr.below hb) ⟨Kept.aM hb fun _ h1 h2=>by omega,fun _ h=>.inl h⟩
theorem FrW.gG (F:FrW b w0 v0 R v l w L)(hb:Below w.heap.size w w')(hR:Sf (fun k=>k<w.heap.size) w' R'):FrW b w0 v0 (fun u=>R' u/\R u) v l w' L:=by
 have G:=F.call hb;refine⟨G.box,G.inj,G.rng,G.wr,G.gr,Sf.and (hR.sub fun k _ h=>?_) G.s1⟩;rcases h with rfl|h|h
 ·exact F.wr.lt
 ·exact(F.wr.own.lt k h).2
 ·exact F.mem h
theorem FrW.frm (b:Nat)(w0:World)(v0:Value)(R:World->Prop)(v:Value)(l:List Nat):Frm (FrW b w0 v0 R v l) ⟨false,0⟩:=by
 refine⟨fun F i p h=>F.box i p h,fun {w L} F {i bb o c vs} hi hl _ _=>?_,fun {w L} F {c t} _=>?_,fun {w L} F=>F.call ((Below.refl _ _).drew)⟩
 ·have hfst:(L.set i (bb,putN c o vs)).map (·.1)=L.map (·.1):=by
   rw[List.map_set];refine List.ext_getElem? fun k=>?_;rw[List.getElem?_set];split
   ·rename_i hk;subst hk;rw[List.getElem?_map,hi];split
    ·rfl
    ·rename_i hlt;exact absurd (by simpa using (List.getElem?_eq_some_iff.1 hi).1) hlt
   ·rfl
  have hm:bb ∈ L.map (·.1):=List.mem_map.2 ⟨_,List.mem_of_getElem? hi,rfl⟩
  have hkk:Kept w (w.setCells bb o vs) (fun k=>k=bb):=Kept.setCells bb vs o w;have key:∀(k:Nat) p,(L.set i (bb,putN c o vs))[k]? = some p->(k=i/\p=(bb,putN c o vs))\/(k≠i/\L[k]? = some p):=by
   intro k p hp;rw[List.getElem?_set]at hp;split at hp
   ·rename_i hk;split at hp
    ·exact .inl ⟨hk.symm,(Option.some.inj hp).symm⟩
    ·cases hp
   ·rename_i hk;exact .inr ⟨fun h=>hk h.symm,hp⟩
  refine⟨fun k p hp=>?_,fun k j p q hp hq e=>?_,by rw[hfst];exact F.rng,F.wr.kept hkk (fun h=>(F.rng bb hm).2.1 h.symm) (fun k hk h=>(F.rng bb hm).2.2 (h ▸ hk)),⟨F.gr.kept.vW hkk (F.rng bb hm).1,F.gr.at'⟩,by rw[hfst];exact F.s1.to (hkk.mono fun k _ h=>.inr (.inr (h ▸ hm)))⟩
  ·rcases key k p hp with ⟨rfl,rfl⟩|⟨hne,hp⟩
   ·have q:=Box.setL vs c o w (F.box _ _ hi)
    rwa [lC vs c o hl]at q
   ·exact(F.box k p hp).kept hkk fun e=>hne (F.inj k i p _ hp hi e)
  ·rcases key k p hp with ⟨rfl,rfl⟩|⟨_,hp'⟩<;>rcases key j q hq with ⟨rfl,rfl⟩|⟨_,hq'⟩
   ·rfl
   ·exact F.inj _ j _ q hi hq' e
   ·exact F.inj k _ p _ hp' hi e
   ·exact F.inj k j p q hp' hq' e
 ·have hal:Below w.heap.size w (w.alloc (.cells c.toArray t)):=(Below.refl _ _).alloc (Nat.le_refl _) _;have F2:=F.call hal;have key:∀(i:Nat) p,(L ++ [(w.heap.size,c)])[i]? = some p->(L[i]? = some p/\p.1<w.heap.size)\/(i=L.length/\p=(w.heap.size,c)):=by
   intro i p hp;rw[List.getElem?_append]at hp;split at hp
   ·exact .inl ⟨hp,(F.box i p hp).lt⟩
   ·rename_i hi;rw[List.getElem?_singleton]at hp;split at hp
    ·exact .inr ⟨by omega,(Option.some.inj hp).symm⟩
    ·cases hp
  have hma:∀k,k ∈ (L ++ [(w.heap.size,c)]).map (·.1)->k ∈ L.map (·.1)\/k=w.heap.size:=fun k hk=>by
   rw[List.map_append]at hk;exact(List.mem_append.1 hk).imp id fun h=>by simpa using h
  refine⟨fun i p hp=>?_,fun i j p q hp hq e=>?_,fun k hk=>?_,F2.wr,F2.gr,fun u ku=>F.s1 u ?_⟩
  ·rcases key i p hp with ⟨hp,_⟩|⟨_,rfl⟩
   ·exact F2.box i p hp
   ·exact Box.new
  ·rcases key i p hp with ⟨hp,lp⟩|⟨rfl,rfl⟩<;>rcases key j q hq with ⟨hq,lq⟩|⟨rfl,rfl⟩
   ·exact F.inj i j p q hp hq e
   ·simp only at e;omega
   ·simp only at e;omega
   ·rfl
  ·rcases hma k hk with hk|rfl
   ·exact F.rng k hk
   ·exact⟨F.gr.kept.size,Nat.ne_of_gt F.wr.lt,fun h=>Nat.lt_irrefl _ (F.wr.own.lt _ h).2⟩
  ·refine(Kept.aM hal (S:=fun _=>False) fun k h1 h2=>by omega).andThen ku fun k hl h=>?_;rcases h with h|h|h|h
   ·exact h.elim
   ·exact .inl h
   ·exact .inr (.inl h)
   ·exact .inr (.inr ((hma k h).resolve_right (by omega)))
theorem fw:Frm (FrW b w0 v0 R v l) ⟨false,0⟩:=FrW.frm _ _ _ _ _ _
theorem FrW.less {M:Bx}(F:FrW b w0 v0 R v l w (L++M)):FrW b w0 v0 R v l w L :=
 ⟨fun i p hp=>F.box i p (by rw[List.getElem?_append_left (List.getElem?_eq_some_iff.1 hp).1];exact hp),fun i j p q hp hq=>F.inj i j p q (by rw[List.getElem?_append_left (List.getElem?_eq_some_iff.1 hp).1];exact hp) (by rw[List.getElem?_append_left (List.getElem?_eq_some_iff.1 hq).1];exact hq),
  fun k hk=>F.rng k (by rw[List.map_append];exact List.mem_append_left _ hk),F.wr,F.gr,F.s1.sub fun k _ h=>h.elim .inl fun h=>h.elim (fun h=>.inr (.inl h)) fun h=>.inr (.inr (by rw[List.map_append];exact List.mem_append_left _ h))⟩
end
def Wn (b:Nat)(v:Value)(kk:IntKind)(zs:List Int)(g:Nat)(u:World):Prop:=Reads u kk (.slice (some ⟨g,0,none⟩) zs.length zs.length) zs/\g≠b/\v.ownBlock≠some g
theorem xG {w:World}{kk:IntKind}{zs:List Int}{t:TypeId}:Reads (w.alloc (.cells (zs.map (.int kk)).toArray t)) kk (.slice (some ⟨w.heap.size,0,none⟩) zs.length zs.length) zs:=by
 have hb:=Box.new (w:=w) (c:=zs.map (.int kk)) (t:=t);refine⟨_,_,rfl,fun j hj=>⟨w.heap.size,0,rfl,?_⟩⟩;have:=(hb.2 j (.int kk zs[j]) (by rw[List.getElem?_map,List.getElem?_eq_getElem hj];rfl)).1;rw[Nat.zero_add];exact this
section
variable {b:Nat} {w0:World} {v0 v:Value} {R:World->Prop} {lb:List Nat} {Q:Exit->Act->World->Prop} {k8:KB} {s:St} {k:List KF} {c:Cf} {dst:Option Tmp}
theorem cV {t e2:TypeId}{kk:IntKind}{by' N:Nat}{ps:Array (Nat × Operand)}{l r:List Oper}{o:Oper}(I:fO Tryz.prog t e2 kk by')(zs:List Int)
  (h:∀g,Ok Tryz.prog Q (FrW b w0 v0 (fun u=>Wn b v kk zs g u/\R u) v lb) (.ops l r) (s.put o.dst (.sl (fun _=>some ⟨g,0,none⟩) (fun _=>N) (fun _=>N))) k)
  (ho:o.op = .buildSlice t N ps:=by rfl)
  (hf:∀B,Instr.fill (fun i=>some (i*1,1)) ((Array.range (N*1)).map ((Value.int kk 0).cells[· % (Value.int kk 0).cells.size]!)) (ps.map fun (i,x)=>(i,(s.act B).eval x)).toList=some (zs.map (.int kk)).toArray:=by intro B;kernel_rfl)
  (hN:zs.length=N:=by rfl) (hN1:Nat.ble N 1000=true:=by rfl) (hN0:Nat.ble 1 N=true:=by rfl) (hw:wantA l s o=some true:=by rfl) :
  bJ Tryz.prog Q (FrW b w0 v0 R v lb) k8 (.at (.ops l (o::r)) s k):=fun B w F=>by
 have hN1:=Nat.le_of_ble_eq_true hN1;have hN0:=Nat.le_of_ble_eq_true hN0;obtain⟨ie,hie,hz,hz2,_⟩:=iB I.info;refine wpList_on (want_den hw) (wp_buildSlice t e2 N ps ho (zs.map (.int kk)).toArray ie (.int kk 0) I.under hie hz (by rw[hz2];omega) (by rw[hz2];omega) (by rw[hz2];exact hf B) ?_);have hb:Below w.heap.size w (w.alloc (.cells (zs.map (.int kk)).toArray e2)):=(Below.refl _ _).alloc (Nat.le_refl _) _;have F':=F.gG hb (R':=Wn b v kk zs w.heap.size) fun u ku=>⟨xG.kept ku (fun k hk=>by simp only[Value.ownBlock]at hk;obtain rfl:=Option.some.inj hk;exact Nat.lt_irrefl _),Nat.ne_of_gt F.wr.lt,fun h=>Nat.lt_irrefl _ (F.wr.own.lt _ h).2⟩;have:=h w.heap.size B _ (by cases o.dst<;>exact F');rw[St.cO]at this;rw[<- hN]at this ⊢;exact this
theorem dS (ns:List Nat){zs:List Int}{g N:Nat}(hz:zs=ints ns)(hns:∀n ∈ ns,(n:Int)<18446744073709551616)(hl:lb.length+9*ns.length<=1000000)
  (h:∀v',Ok Tryz.prog Q (FrW b w0 v0 R v' (lb++aO ns)) c (s.put dst (.t [])) k) (hN:zs.length=N:=by rfl) :
  bJ Tryz.prog Q (FrW b w0 v0 (fun u=>Wn b v .u64 zs g u/\R u) v lb) k8 (.call 35 [.pa (fun _=>⟨b,0,none⟩),.sl (fun _=>some ⟨g,0,none⟩) (fun _=>N) (fun _=>N)] dst c s k):=fun B w F=>by
 subst hN hz;obtain⟨⟨h1,h2,h3⟩,_⟩:=F.now;refine(tY b v _ lb ns w F.wr h1 hns (fun k hk=>by simp only[Value.ownBlock]at hk;obtain rfl:=Option.some.inj hk;exact⟨h2,h3⟩) hl).mono ?_;rintro e w' ⟨rfl,v',hw,hg⟩;exact⟨.t [],_,rfl,fw.b,(F.put hw hg).imp fun _ h=>h.2,h v'⟩
end
theorem bK:fO Tryz.prog 135 50 .u64 8:=⟨Tryz.underlying135,by kernel_rfl⟩
theorem mP:fO Tryz.prog 166 2 .i64 8:=⟨Tryz.underlying166,by kernel_rfl⟩
section
variable {b:Nat} {w0:World} {v0 v:Value} {R:World->Prop} {lb:List Nat} {Q:Exit->Act->World->Prop} {k8:KB} {s:St} {k:List KF} {c:Cf} {dst:Option Tmp}
theorem tW (n m:Nat){e:IE}(he:e.den=(n:Int)){M:Int}(hM:M=(m:Int))(hn:(n:Int)<18446744073709551616)(hm:m<=128)(hl:lb.length<=1000000)
  (h:∀v',Ok Tryz.prog Q (FrW b w0 v0 R v' (lb++((m+(cA n).length)::cA n))) c (s.put dst (.t [])) k) :
  bJ Tryz.prog Q (FrW b w0 v0 R v lb) k8 (.call 83 [.pa (fun _=>⟨b,0,none⟩),.i .u64 e,.i .u8 (.l M)] dst c s k):=fun B w F=>by
 have q:=mG b v lb n m w F.wr hn hm hl;rw[<- he,<- hM]at q;refine q.mono ?_;rintro e w' ⟨rfl,v',hw,hg⟩;exact⟨.t [],_,rfl,fw.b,F.put hw hg,h v'⟩
end
theorem kS {z:Int}(h0:0<=z)(h1:z<18446744073709551616):IntKind.u64.wrap z=(z.toNat:Int):=by
 rw[wrap_u64,Int.toNat_of_nonneg h0];omega
theorem aIe (b:Nat)(v:Value)(l:List Nat)(z:Int)(g:Nat)(w:World)(hw:dW w b v l)(hx:Wn b v .i64 [z] g w)(h0:-9223372036854775808<=z)(h1:z<9223372036854775808)(hl:l.length+9<=1000000) :
  Calls Tryz.prog 36 #[.pointer (some ⟨b,0,none⟩),.slice (some ⟨g,0,none⟩) 1 1] w fun e w'=>e = .returned (.tuple #[]) /\ ∃v',dW w' b v' (l++fT z)/\fC w w' b v v':=by
 obtain⟨hr,hgb,hgv⟩:=hx;have hc:w.cell? ⟨g,0,none⟩=some (.int .i64 z):=by
  obtain⟨a,c,e,h⟩:=hr;cases e;obtain⟨b',o',e,hh⟩:=h 0 (by simp);cases e;exact hh
 have F0:FrW b w v (fun u=>u.cell? ⟨g,0,none⟩=some (.int .i64 z)) v l w []:=FrW.start hw fun u ku=>ku.cell hc fun h=>h.elim hgb hgv;refine enter (F:=FrW b w v (fun u=>u.cell? ⟨g,0,none⟩=some (.int .i64 z)) v l) (fun _=>0) [.pa (fun _=>⟨b,0,none⟩),.sl (fun _=>some ⟨g,0,none⟩) (fun _=>1) (fun _=>1)] [] Tryz.func36 rfl rfl F0 24 rfl ?_;clear F0 hr hc hgb hgv hw;refine ga env fw aA ?_;refine tV 2 fun J0 hJ0=>?_;refine ga env fw aA ?_;refine⟨fun q=>?_,fun q=>absurd q (by simp[BE.den,cmpB,IE.den])⟩;clear q;refine ga env fw aA ?_;refine aK (.pa fun _=>⟨g,0,none⟩) (fun B u F=>bX (i:=0) (e:=2) (n:=1) rfl Tryz.underlying166 (by kernel_rfl) (by rw[St.aC];rfl) (by rw[St.aC];rfl) (by decide)) ?_;refine ga env fw aA ?_;refine aK (.i .i64 (.x fun _=>z)) (fun B u F=>gK aX (b:=g) (off:=0) rfl (by rw[St.aC];rfl) rfl rfl F.now) ?_;refine ga env fw aA ?_;refine⟨fun q=>?_,fun q=>?_⟩
 ·have hz:z<0:=of_decide_eq_true q;clear q;refine ga env fw aA ?_;refine tW (-1-z).toNat 128 (by simp only[IE.den];rw[show IntKind.i64.wrap (-1-z) = -1-z by rw[IntKind.wrap_i64];omega,kS (by omega) (by omega)]) rfl (by omega) (by decide) (by omega) ?_;intro v';refine ga env fw aA ?_;refine dL hJ0 fun J1 hJ1=>?_;refine ga env fw aA ?_;refine⟨fun q=>absurd q (by simp[BE.den,cmpB,IE.den]),fun q=>?_⟩;refine ga env fw aA ?_;refine fa env fw ?_;intro B u F;rw[fT,if_pos hz];exact⟨rfl,v',F.wr,F.gr⟩
 ·have hz:¬z<0:=of_decide_eq_false q;clear q;refine ga env fw aA ?_;refine tW z.toNat 0 (by simp only[IE.den];rw[kS (by omega) (by omega)]) rfl (by omega) (by decide) (by omega) ?_;intro v';refine ga env fw aA ?_;refine dL hJ0 fun J1 hJ1=>?_;refine ga env fw aA ?_;refine⟨fun q=>absurd q (by simp[BE.den,cmpB,IE.den]),fun q=>?_⟩;refine ga env fw aA ?_;refine fa env fw ?_;intro B u F;rw[fT,if_neg hz,bH];rw[Nat.zero_add]at F;exact⟨rfl,v',F.wr,F.gr⟩
section
variable {b:Nat} {w0:World} {v0 v:Value} {R:World->Prop} {lb:List Nat} {Q:Exit->Act->World->Prop} {k8:KB} {s:St} {k:List KF} {c:Cf} {dst:Option Tmp}
theorem wB (z:Int){g:Nat}(h0:-9223372036854775808<=z)(h1:z<9223372036854775808)(hl:lb.length+9<=1000000)
  (h:∀v',Ok Tryz.prog Q (FrW b w0 v0 R v' (lb++fT z)) c (s.put dst (.t [])) k) :
  bJ Tryz.prog Q (FrW b w0 v0 (fun u=>Wn b v .i64 [z] g u/\R u) v lb) k8 (.call 36 [.pa (fun _=>⟨b,0,none⟩),.sl (fun _=>some ⟨g,0,none⟩) (fun _=>1) (fun _=>1)] dst c s k):=fun B w F=>by
 refine(aIe b v lb z g w F.wr F.now.1 h0 h1 hl).mono ?_;rintro e w' ⟨rfl,v',hw,hg⟩;exact⟨.t [],_,rfl,fw.b,(F.put hw hg).imp fun _ h=>h.2,h v'⟩
theorem aJF (T:List Nat)(hT:∀c ∈ T,c<256)(hl:lb.length+9+T.length<=1000000)
  (h:∀v',Ok Tryz.prog Q (FrW b w0 v0 R v' (lb++(bH T.length++T))) c (s.put dst (.t [])) k) :
  bJ Tryz.prog Q (FrW b w0 v0 R v lb) k8 (.call 86 [.pa (fun _=>⟨b,0,none⟩),.st fun _=>eD T] dst c s k):=fun B w F=>by
 refine(yE b v lb (eD T) w F.wr (by rw[lR];exact hl)).mono ?_;rintro e w' ⟨rfl,v',hw,hg⟩;rw[lR,iC hT]at hw;exact⟨.t [],_,rfl,fw.b,F.put hw hg,h v'⟩
def rM (b:Nat)(v:Value)(l:List Nat)(w:World):Ending->World->Prop:=fun e w'=>e = .returned (.tuple #[]) /\ ∃v',dW w' b v' l/\fC w w' b v v'
end
theorem iM {l:List aY}{j:Nat}(h:j<l.length):eI (l.take (j+1))=eI (l.take j)++aO [l[j].f.toNat,l[j].t.toNat]:=by
 rw[List.take_succ_eq_append_getElem h];unfold eI;simp only[List.flatMap_append,List.flatMap_cons,List.flatMap_nil,List.append_nil];rw[prW];simp[aO]
theorem eY (l:List aY)(h:∀s ∈ l,0<=s.f/\s.f<9223372036854775808/\0<=s.t/\s.t<9223372036854775808):(eI l).length<=18*l.length:=by
 induction l with
 | nil=>simp[eI]
 | cons s l ih =>
  have h1:=ih fun x hx=>h x (List.mem_cons_of_mem _ hx);have h2:=h s (List.mem_cons_self ..);have e:eI (s::l)=prW s++eI l:=by simp[eI]
  have h3:=eW (n:=s.f.toNat) (by omega);have h4:=eW (n:=s.t.toNat) (by omega);rw[e,prW,List.length_append,List.length_append,List.length_cons];omega
structure WI (n:Nat) where
 j:Nat
 v:Value
 x:Nat->Value
 hj:j<=n
def SpR (l:List aY):Prop:=∀s ∈ l,0<=s.f/\s.f<9223372036854775808/\0<=s.t/\s.t<9223372036854775808
theorem SpR.take {l:List aY}(h:SpR l)(j:Nat):SpR (l.take j):=fun s hs=>h s (List.mem_of_mem_take hs)
theorem wn1 {n:Nat}(h:(n:Int)<18446744073709551616):[IntKind.u64.wrap (n:Int)]=ints [n]:=by rw[wrU h];rfl
theorem wnZ {z:Int}(h0:0<=z):[z]=ints [z.toNat]:=by
 show [z] = [((z.toNat:Nat):Int)];rw[Int.toNat_of_nonneg h0]
theorem bKg {z:Int}(h0:0<=z)(h1:z<18446744073709551616):[IntKind.u64.wrap z]=ints [z.toNat]:=by rw[kS h0 h1];rfl
theorem yA {z y:Int}(h0:0<=z)(h1:z<18446744073709551616)(h2:0<=y)(h3:y<18446744073709551616):[IntKind.u64.wrap z,IntKind.u64.wrap y]=ints [z.toNat,y.toNat]:=by rw[kS h0 h1,kS h2 h3];rfl
theorem kV {z:Int}(h0:-9223372036854775808<=z)(h1:z<9223372036854775808):(fT z).length<=9:=by
 unfold fT;split
 ·have:=jH (n:=(-1-z).toNat) (by omega);rw[List.length_cons];omega
 ·exact eW (by omega)
theorem sT (b:Nat)(v:Value)(l:List Nat)(k:fD)(wa:Option Addr)(wc:Nat)(ca:Option Addr)(cc:Nat)(w:World)(hw:dW w b v l)(hs:∀u,Kept w u (fun j=>j=b\/v.ownBlock=some j)->bP u k wa k.w.length wc ca k.c.length cc)
  (ho:-9223372036854775808<=k.o/\k.o<9223372036854775808) (h1:SpR k.w) (h2:SpR k.c) (hwl:k.w.length<=32) (hcl:k.c.length<=32) (hl:l.length+1300<=1000000) :
  Calls Tryz.prog 128 #[.pointer (some ⟨b,0,none⟩),.agg #[.int .i64 k.o,.slice wa k.w.length wc,.slice ca k.c.length cc]] w (rM b v (l++oT k) w):=by
 have F0:FrW b w v (fun u=>bP u k wa k.w.length wc ca k.c.length cc) v l w []:=FrW.start hw hs;refine enter (F:=FrW b w v (fun u=>bP u k wa k.w.length wc ca k.c.length cc) v l) (fun _=>0) [.pa (fun _=>⟨b,0,none⟩),.g [.i .i64 (.x fun _=>k.o),.sl (fun _=>wa) (fun _=>k.w.length) (fun _=>wc),.sl (fun _=>ca) (fun _=>k.c.length) (fun _=>cc)]] [] Tryz.func128 rfl rfl F0 42 rfl ?_;have hC0:=hs w (Kept.refl _ _);clear F0 hw hs;generalize hPW:l++oT k=PW;obtain⟨o,W,C⟩:=k;simp only at ho h1 h2 hwl hcl hC0 ⊢;refine ga env fw aA ?_;refine cV mP [o] fun g=>?_;refine ga env fw aA ?_;refine wB o ho.1 ho.2 (by omega) fun v1=>?_;have hi9:(fT o).length<=9:=kV ho.1 ho.2;generalize hX:l++fT o=X;have hXl:X.length<=l.length+9:=by rw[<- hX,List.length_append];omega
 clear hi9;refine ga env fw aA ?_;refine aK (.g [.sl (fun _=>wa) (fun _=>W.length) (fun _=>wc),.sl (fun _=>ca) (fun _=>C.length) (fun _=>cc)]) (fun B v F=>qI aX rfl Tryz.underlying327 rfl rfl rfl) ?_;refine ga env fw aA ?_;refine tV 3 fun J0 hJ0=>?_;refine ga env fw aA ?_;refine aK (.sl (fun _=>wa) (fun _=>W.length) (fun _=>wc)) (fun B v F=>iR aX (i:=0) rfl Tryz.underlying327 rfl rfl (by rw[St.aC];rfl) (by decide) rfl) ?_;refine ga env fw aA ?_;refine cV bK [IntKind.u64.wrap (W.length:Int)] fun g=>?_;refine ga env fw aA ?_;refine dS [W.length] (wn1 (by omega)) (by simp;omega) (by simp;omega) fun v2=>?_;have hn9:=bG [W.length] (by simp;omega);generalize hY:X++aO [W.length]=Z0;have hYl:Z0.length<=X.length+9:=by rw[<- hY,List.length_append];simp at hn9;omega
 have hY2:X++iH W=Z0++eI W:=by rw[<- hY,iH];simp[aO]
 clear hY hn9;refine ga env fw aA ?_;refine eV (fun i:WI W.length=>FrW b w v (fun u=>bP u ⟨o,W,C⟩ wa W.length wc ca C.length cc) i.v (Z0++eI (W.take i.j))) WI.x (fun i=>[(0,.pa (fun _=>⟨b,0,none⟩)),(17,.g [.sl (fun _=>wa) (fun _=>W.length) (fun _=>wc),.sl (fun _=>ca) (fun _=>C.length) (fun _=>cc)]),(18,.i .i64 (.l 0)),(27,.sl (fun _=>wa) (fun _=>W.length) (fun _=>wc)),(28,.i .i64 (.x fun _=>(W.length:Int))),(29,.i .i64 (.x fun _=>(i.j:Int)))]) (fun _=>[[.i .i64 (.x fun _=>o),.sl (fun _=>wa) (fun _=>W.length) (fun _=>wc),.sl (fun _=>ca) (fun _=>C.length) (fun _=>cc)]]) (fun i=>W.length-i.j) 44 (fun x=>⟨0,v2,x,Nat.zero_le _⟩) (fun _=>rfl) (fun B x=>⟨rfl,rfl,rfl,rfl,rfl,rfl,trivial⟩) (fun B w1 F x=>by rw[List.take_zero,show eI [] = [] from rfl,List.append_nil];exact FrW.less (L:=[(B 0,_)]) F) ?_;intro i J hJ;refine ga env fw aA ?_;refine⟨fun q=>?_,fun q=>?_⟩
 ·have hlt:i.j<W.length:=by simpa [BE.den,cmpB,IE.den] using q
  clear q;have htk:=iM hlt;have hsp:=h1 _ (List.getElem_mem hlt);have hln:=eY _ (SpR.take h1 i.j);rw[List.length_take,Nat.min_eq_left (Nat.le_of_lt hlt)]at hln;generalize hp:W[i.j]=p at htk hsp;obtain⟨gb,go,rfl,_⟩:=hC0.rw.at (j:=i.j) (by rw[List.length_map];exact hlt);have hrg:∀u,bP u ⟨o,W,C⟩ (some ⟨gb,go,none⟩) W.length wc ca C.length cc->u.rangeAt gb (go+i.j*2) (spV p):=fun u hu=>by
   have:=hu.rw.range (j:=i.j) (by rw[List.length_map];exact hlt);rw[List.getElem_map]at this;exact hp ▸ this
  clear hp;refine ga env fw aA ?_;refine aK (.pa fun _=>⟨gb,go+i.j*2,none⟩) (fun B v F=>bX (e:=324) (n:=2) rfl Tryz.underlying66 (by kernel_rfl) (by rw[St.aC];rfl) (by rw[St.aC];rfl) hlt) ?_;refine ga env fw aA ?_;refine aK (.g [.i .i64 (.x fun _=>p.f),.i .i64 (.x fun _=>p.t)]) (fun B v F=>dD (cs:=spV p) (b:=gb) (off:=go+i.j*2) rfl (by rw[St.aC];rfl) (hrg _ F.now) Tryz.underlying324 rfl (by kernel_rfl)) ?_;refine ga env fw aA ?_;refine cV bK [IntKind.u64.wrap p.f,IntKind.u64.wrap p.t] fun g=>?_;refine ga env fw aA ?_;refine dS [p.f.toNat,p.t.toNat] (yA hsp.1 (by omega) hsp.2.2.1 (by omega)) (by simp;omega) (by rw[List.length_append];simp;omega) fun v3=>?_;refine ga env fw aA ?_;refine gS hJ (fun x=>⟨i.j+1,v3,x,hlt⟩) (fun _=>rfl) (fun _=>(by omega:W.length-(i.j+1)<W.length-i.j)) (fun B x=>⟨rfl,rfl,rfl,rfl,rfl,?_,trivial⟩) (fun B u F x=>?_)
  ·simp only[AV.den,IE.den,getT];rw[wrI hlt (by omega)]
  ·show FrW b w v _ v3 (Z0++eI (W.take (i.j+1))) u [(B 0,_)];rw[htk,<- List.append_assoc];exact FrW.less (L:=[(B 0,_)]) F
 have hje:i.j=W.length:=by
  have:¬i.j<W.length:=by simpa [BE.den,cmpB,IE.den] using q
  have:=i.hj;omega
 clear q hJ;have hpl:=eY W h1;rw[hje,List.take_length,<- hY2];have hZl:(X++iH W).length<=X.length+9+18*32:=by rw[hY2,List.length_append];omega
 clear hY2 hYl hje hpl;generalize hXY:X++iH W=Y at hZl ⊢;refine ga env fw aA ?_;refine dL hJ0 fun J1 hJ1=>?_;clear hJ0;refine ga env fw aA ?_;refine aK (.sl (fun _=>ca) (fun _=>C.length) (fun _=>cc)) (fun B v F=>iR aX (i:=1) rfl Tryz.underlying327 rfl rfl (by rw[St.aC];rfl) (by decide) rfl) ?_;refine ga env fw aA ?_;refine cV bK [IntKind.u64.wrap (C.length:Int)] fun g=>?_;refine ga env fw aA ?_;refine dS [C.length] (wn1 (by omega)) (by simp;omega) (by simp;omega) fun v2=>?_;have hn9:=bG [C.length] (by simp;omega);generalize hY:Y++aO [C.length]=Z1;have hYl:Z1.length<=Y.length+9:=by rw[<- hY,List.length_append];simp at hn9;omega
 have hY2:Y++iH C=Z1++eI C:=by rw[<- hY,iH];simp[aO]
 clear hY hn9;refine ga env fw aA ?_;refine eV (fun i:WI C.length=>FrW b w v (fun u=>bP u ⟨o,W,C⟩ wa W.length wc ca C.length cc) i.v (Z1++eI (C.take i.j))) WI.x (fun i=>[(0,.pa (fun _=>⟨b,0,none⟩)),(17,.g [.sl (fun _=>wa) (fun _=>W.length) (fun _=>wc),.sl (fun _=>ca) (fun _=>C.length) (fun _=>cc)]),(18,.i .i64 (.l 1)),(27,.sl (fun _=>ca) (fun _=>C.length) (fun _=>cc)),(28,.i .i64 (.x fun _=>(C.length:Int))),(29,.i .i64 (.x fun _=>(i.j:Int)))]) (fun _=>[[.i .i64 (.x fun _=>o),.sl (fun _=>wa) (fun _=>W.length) (fun _=>wc),.sl (fun _=>ca) (fun _=>C.length) (fun _=>cc)]]) (fun i=>C.length-i.j) 44 (fun x=>⟨0,v2,x,Nat.zero_le _⟩) (fun _=>rfl) (fun B x=>⟨rfl,rfl,rfl,rfl,rfl,rfl,trivial⟩) (fun B w1 F x=>by rw[List.take_zero,show eI [] = [] from rfl,List.append_nil];exact FrW.less (L:=[(B 0,_)]) F) ?_;intro i J hJ;refine ga env fw aA ?_;refine⟨fun q=>?_,fun q=>?_⟩
 ·have hlt:i.j<C.length:=by simpa [BE.den,cmpB,IE.den] using q
  clear q;have htk:=iM hlt;have hsp:=h2 _ (List.getElem_mem hlt);have hln:=eY _ (SpR.take h2 i.j);rw[List.length_take,Nat.min_eq_left (Nat.le_of_lt hlt)]at hln;generalize hp:C[i.j]=p at htk hsp;obtain⟨gb,go,rfl,_⟩:=hC0.rc.at (j:=i.j) (by rw[List.length_map];exact hlt);have hrg:∀u,bP u ⟨o,W,C⟩ wa W.length wc (some ⟨gb,go,none⟩) C.length cc->u.rangeAt gb (go+i.j*2) (spV p):=fun u hu=>by
   have:=hu.rc.range (j:=i.j) (by rw[List.length_map];exact hlt);rw[List.getElem_map]at this;exact hp ▸ this
  clear hp;refine ga env fw aA ?_;refine aK (.pa fun _=>⟨gb,go+i.j*2,none⟩) (fun B v F=>bX (e:=324) (n:=2) rfl Tryz.underlying66 (by kernel_rfl) (by rw[St.aC];rfl) (by rw[St.aC];rfl) hlt) ?_;refine ga env fw aA ?_;refine aK (.g [.i .i64 (.x fun _=>p.f),.i .i64 (.x fun _=>p.t)]) (fun B v F=>dD (cs:=spV p) (b:=gb) (off:=go+i.j*2) rfl (by rw[St.aC];rfl) (hrg _ F.now) Tryz.underlying324 rfl (by kernel_rfl)) ?_;refine ga env fw aA ?_;refine cV bK [IntKind.u64.wrap p.f,IntKind.u64.wrap p.t] fun g=>?_;refine ga env fw aA ?_;refine dS [p.f.toNat,p.t.toNat] (yA hsp.1 (by omega) hsp.2.2.1 (by omega)) (by simp;omega) (by rw[List.length_append];simp;omega) fun v3=>?_;refine ga env fw aA ?_;refine gS hJ (fun x=>⟨i.j+1,v3,x,hlt⟩) (fun _=>rfl) (fun _=>(by omega:C.length-(i.j+1)<C.length-i.j)) (fun B x=>⟨rfl,rfl,rfl,rfl,rfl,?_,trivial⟩) (fun B u F x=>?_)
  ·simp only[AV.den,IE.den,getT];rw[wrI hlt (by omega)]
  ·show FrW b w v _ v3 (Z1++eI (C.take (i.j+1))) u [(B 0,_)];rw[htk,<- List.append_assoc];exact FrW.less (L:=[(B 0,_)]) F
 have hje:i.j=C.length:=by
  have:¬i.j<C.length:=by simpa [BE.den,cmpB,IE.den] using q
  have:=i.hj;omega
 clear q hJ;have hpl:=eY C h2;rw[hje,List.take_length,<- hY2];have hZl:(Y++iH C).length<=Y.length+9+18*32:=by rw[hY2,List.length_append];omega
 clear hY2 hYl hje hpl;refine ga env fw aA ?_;refine dL hJ1 fun J2 hJ2=>?_;refine ga env fw aA ?_;refine fa env fw ?_;intro B u F;exact⟨rfl,_,by rw[<- hPW,oT,<- List.append_assoc,hX,<- List.append_assoc,hXY];exact F.wr,F.gr⟩
theorem sU (b:Nat)(v:Value)(l:List Nat)(k:gI)(la:Option Addr)(lc:Nat)(w:World)(hw:dW w b v l)(hs:∀u,Kept w u (fun j=>j=b\/v.ownBlock=some j)->bV u k la k.l.length lc)
  (h0:0<=k.c/\k.c<9223372036854775808) (h1:0<=k.r/\k.r<9223372036854775808) (h2:0<=k.b/\k.b<9223372036854775808) (h3:SpR k.l) (hll:k.l.length<=32) (hl:l.length+1300<=1000000) :
  Calls Tryz.prog 129 #[.pointer (some ⟨b,0,none⟩),.agg #[.int .i64 k.c,.slice la k.l.length lc,.int .i64 k.r,.int .i64 k.b]] w (rM b v (l++oW k) w):=by
 have F0:FrW b w v (fun u=>bV u k la k.l.length lc) v l w []:=FrW.start hw hs;refine enter (F:=FrW b w v (fun u=>bV u k la k.l.length lc) v l) (fun _=>0) [.pa (fun _=>⟨b,0,none⟩),.g [.i .i64 (.x fun _=>k.c),.sl (fun _=>la) (fun _=>k.l.length) (fun _=>lc),.i .i64 (.x fun _=>k.r),.i .i64 (.x fun _=>k.b)]] [] Tryz.func129 rfl rfl F0 40 rfl ?_;have hC0:=hs w (Kept.refl _ _);clear F0 hw hs;generalize hPW:l++oW k=PW;obtain⟨kc,W,kr,kb⟩:=k;simp only at h0 h1 h2 h3 hll hC0 ⊢;refine ga env fw aA ?_;refine cV bK [IntKind.u64.wrap kc,IntKind.u64.wrap (W.length:Int)] fun g=>?_;refine ga env fw aA ?_;refine dS [kc.toNat,W.length] (by rw[kS h0.1 (by omega),wrU (by omega)];rfl) (by simp;omega) (by simp;omega) fun v2=>?_;have hn9:=bG [kc.toNat,W.length] (by simp;omega);generalize hY:l++aO [kc.toNat,W.length]=Z;have hYl:Z.length<=l.length+18:=by rw[<- hY,List.length_append];simp at hn9;omega
 have hY2:l++(bH kc.toNat++iH W)=Z++eI W:=by rw[<- hY,iH];simp[aO]
 clear hY hn9;refine ga env fw aA ?_;refine eV (fun i:WI W.length=>FrW b w v (fun u=>bV u ⟨kc,W,kr,kb⟩ la W.length lc) i.v (Z++eI (W.take i.j))) WI.x (fun i=>[(0,.pa (fun _=>⟨b,0,none⟩)),(3,.p 0 0),(17,.sl (fun _=>la) (fun _=>W.length) (fun _=>lc)),(18,.i .i64 (.x fun _=>(W.length:Int))),(19,.i .i64 (.x fun _=>(i.j:Int)))]) (fun _=>[[.i .i64 (.x fun _=>kc),.sl (fun _=>la) (fun _=>W.length) (fun _=>lc),.i .i64 (.x fun _=>kr),.i .i64 (.x fun _=>kb)]]) (fun i=>W.length-i.j) 42 (fun x=>⟨0,v2,x,Nat.zero_le _⟩) (fun _=>rfl) (fun B x=>⟨rfl,rfl,rfl,rfl,rfl,trivial⟩) (fun B w1 F x=>by rw[List.take_zero,show eI [] = [] from rfl,List.append_nil];exact FrW.less (L:=[(B 0,_)]) F) ?_;intro i J hJ;refine ga env fw aA ?_;refine⟨fun q=>?_,fun q=>?_⟩
 ·have hlt:i.j<W.length:=by simpa [BE.den,cmpB,IE.den] using q
  clear q;have htk:=iM hlt;have hsp:=h3 _ (List.getElem_mem hlt);have hln:=eY _ (SpR.take h3 i.j);rw[List.length_take,Nat.min_eq_left (Nat.le_of_lt hlt)]at hln;generalize hp:W[i.j]=p at htk hsp;obtain⟨gb,go,rfl,_⟩:=hC0.rl.at (j:=i.j) (by rw[List.length_map];exact hlt);have hrg:∀u,bV u ⟨kc,W,kr,kb⟩ (some ⟨gb,go,none⟩) W.length lc->u.rangeAt gb (go+i.j*2) (spV p):=fun u hu=>by
   have:=hu.rl.range (j:=i.j) (by rw[List.length_map];exact hlt);rw[List.getElem_map]at this;exact hp ▸ this
  clear hp;refine ga env fw aA ?_;refine aK (.pa fun _=>⟨gb,go+i.j*2,none⟩) (fun B v F=>bX (e:=275) (n:=2) rfl Tryz.underlying69 (by kernel_rfl) (by rw[St.aC];rfl) (by rw[St.aC];rfl) hlt) ?_;refine ga env fw aA ?_;refine aK (.g [.i .i64 (.x fun _=>p.f),.i .i64 (.x fun _=>p.t)]) (fun B v F=>dD (cs:=spV p) (b:=gb) (off:=go+i.j*2) rfl (by rw[St.aC];rfl) (hrg _ F.now) Tryz.underlying275 rfl (by kernel_rfl)) ?_;refine ga env fw aA ?_;refine cV bK [IntKind.u64.wrap p.f,IntKind.u64.wrap p.t] fun g=>?_;refine ga env fw aA ?_;refine dS [p.f.toNat,p.t.toNat] (yA hsp.1 (by omega) hsp.2.2.1 (by omega)) (by simp;omega) (by rw[List.length_append];simp;omega) fun v3=>?_;refine ga env fw aA ?_;refine gS hJ (fun x=>⟨i.j+1,v3,x,hlt⟩) (fun _=>rfl) (fun _=>(by omega:W.length-(i.j+1)<W.length-i.j)) (fun B x=>⟨rfl,rfl,rfl,rfl,?_,trivial⟩) (fun B u F x=>?_)
  ·simp only[AV.den,IE.den,getT];rw[wrI hlt (by omega)]
  ·show FrW b w v _ v3 (Z++eI (W.take (i.j+1))) u [(B 0,_)];rw[htk,<- List.append_assoc];exact FrW.less (L:=[(B 0,_)]) F
 have hje:i.j=W.length:=by
  have:¬i.j<W.length:=by simpa [BE.den,cmpB,IE.den] using q
  have:=i.hj;omega
 clear q hJ;have hpl:=eY W h3;rw[hje,List.take_length,<- hY2];have hZl:(l++(bH kc.toNat++iH W)).length<=l.length+18+18*32:=by rw[hY2,List.length_append];omega
 clear hY2 hYl hje hpl;refine ga env fw aA ?_;refine cV bK [IntKind.u64.wrap kr,IntKind.u64.wrap kb] fun g=>?_;refine ga env fw aA ?_;refine dS [kr.toNat,kb.toNat] (yA h1.1 (by omega) h2.1 (by omega)) (by simp;omega) (by simp only[List.length_cons,List.length_nil];omega) fun v5=>?_;refine ga env fw aA ?_;refine fa env fw ?_;intro B u F;refine⟨rfl,_,?_,F.gr⟩;rw[<- hPW,oW,<- List.append_assoc (bH kc.toNat),<- List.append_assoc l];have:=F.wr;rw[show aO [kr.toNat,kb.toNat]=bH kr.toNat++bH kb.toNat by simp[aO]]at this;exact this
end Go.Proofs.YtgeihgombjbkbaaGreat
namespace Go.Proofs.Own
open Go Go.RowKit
end Go.Proofs.Own
namespace Go.Proofs.YtgeihgombjbkbaaGreat
open Go Go.RowKit Go.Maps Go.Proofs.Own
theorem eM (a:Nat)(v:Value)(l:List Nat)(w:World)(hw:dW w a v l)(hl:l.length<=1000000)(hb:∀c ∈ l,c<256) :
  Calls Tryz.prog 39 #[.pointer (some ⟨a,0,none⟩)] w fun e w'=>∃v',e = .returned v'/\aT w' w.heap.size 5 .u8 v' (ints l)/\Bytes w' v' l/\Below w.heap.size w w':=by
 have HW:=Lib.hid hw;have HB:=Lib.hid hb;have x0:=hw.c;clear hw hb;have HL:Hid ((ints l).length<=2097152):=Lib.hid (by rw[aE];omega);go_enter Tryz.func39,Tryz.ntmps39;go_wp2_with fail;refine(qJ _ _ _ HW.out.own.reads HL.out).mono ?_;rintro e w1 ⟨v1,rfl,hown,hb1⟩;have HO:=Lib.hid hown;have B1:=Lib.hid hb1;clear hown hb1;go_wp2_with fail;go_ret;exact⟨v1,rfl,HO.out,Bytes.fM HO.out HB.out (by omega),B1.out⟩
theorem kO {w0 w:World}{R:World->Prop}{L:Bx}{b:Nat}(f:Fr (fun _=>False) w0 w (L ++ [(b,[.slice none 0 0])]) R):FrW b w0 (.slice none 0 0) R (.slice none 0 0) [] w L:=by
 have hi:(L ++ [(b,[Value.slice none 0 0])])[L.length]? = some (b,[.slice none 0 0]):=by simp
 have hbx:=f.box _ _ hi;refine⟨fun i p hp=>f.box i p (by rw[List.getElem?_append_left (List.getElem?_eq_some_iff.1 hp).1];exact hp),fun i j p q hp hq=>f.inj i j p q (by rw[List.getElem?_append_left (List.getElem?_eq_some_iff.1 hp).1];exact hp) (by rw[List.getElem?_append_left (List.getElem?_eq_some_iff.1 hq).1];exact hq),fun k hk=>?_,⟨(hbx.2 0 _ rfl).1,aT.nil _ _ _ _,(hbx.2 0 _ rfl).2⟩,⟨Kept.aM f.bel fun k h1 h2=>by omega,nofun⟩,f.saf.sub fun k _ h=>?_⟩
 ·obtain⟨p,hp,rfl⟩:=List.mem_map.1 hk;have h1:=f.rng p (List.mem_append_left _ hp);obtain⟨j,hj⟩:=List.getElem?_of_mem hp;have hjl:=(List.getElem?_eq_some_iff.1 hj).1;refine⟨h1.1,fun h=>?_,nofun⟩;have:=f.inj j L.length p _ (by rw[List.getElem?_append_left hjl];exact hj) hi h;omega
 ·refine .inr ?_;rw[List.map_append];rcases h with rfl|h|h
  ·exact List.mem_append_right _ (by simp)
  ·cases h
  ·exact List.mem_append_left _ h
theorem FrW.bel {b:Nat}{w0 w:World}{v0 v:Value}{R:World->Prop}{l:List Nat}{L:Bx}(F:FrW b w0 v0 R v l w L)(hb:w0.heap.size<=b)(hv:v0 = .slice none 0 0):Below w0.heap.size w0 w :=
 F.gr.kept.below (Nat.le_refl _) fun k hk=>by
  subst hv;rcases hk with rfl|hk
  ·exact hb
  ·cases hk
def kL (c:cQ):Prop:=0<=c.cl/\0<=c.rq/\c.rq<18446744073709551616/\0<=c.id/\c.id<18446744073709551616
theorem tF:∀ {l:List aY}{e:Int},rowE e l=true->SpR l
 | [],_,_=>nofun
 | s::l,e,h=>by
  rw[rowE,Bool.and_eq_true,Bool.and_eq_true]at h;have h1:=h.1.1;unfold fJ at h1;simp only[Bool.and_eq_true,decide_eq_true_eq]at h1;intro x hx;rcases List.mem_cons.1 hx with rfl|hx
  ·omega
  ·exact tF h.2 x hx
theorem oF {l:List aY}(h:bB l=0):SpR l/\l.length<=32:=by
 unfold bB at h;split at h
 ·cases h
 ·split at h
  ·exact⟨tF (by assumption),by omega⟩
  ·cases h
theorem nB {k:fD}(h:bZ k=0):(0<=k.o/\k.o<604800)/\(SpR k.w/\k.w.length<=32)/\(SpR k.c/\k.c.length<=32):=by
 unfold bZ at h;split at h
 ·cases h
 rename_i h1;split at h
 ·rename_i h2;exact absurd h h2
 rename_i h2;have h2:bC k.w=0:=by simpa using h2
 refine⟨by omega,oF ?_,oF h⟩;unfold bC at h2;split at h2
 ·assumption
 ·exact h2
theorem pH {k:gI}(h:dV k=true):(0<=k.c/\k.c<=7)/\(1<=k.r/\k.r<=8)/\(1<=k.b/\k.b<=1048576)/\SpR k.l/\k.l.length<=6:=by
 unfold dV at h;simp only[Bool.and_eq_true,decide_eq_true_eq,List.all_eq_true]at h;refine⟨h.1,h.2.2.1,h.2.2.2.1,fun s hs=>?_,h.2.1.2⟩;have:=h.2.2.2.2 s hs;unfold dY at this;simp only[Bool.and_eq_true,decide_eq_true_eq]at this;omega
theorem aHi {z:Int}(h1:z<18446744073709551616):∀c ∈ bH z.toNat,c<256:=iT (by omega)
theorem wY {z:Int}(h1:z<18446744073709551616):(bH z.toNat).length<=9:=eW (by omega)
theorem vN {z:Int}(h0:-9223372036854775808<=z)(h1:z<9223372036854775808):∀c ∈ fT z,c<256:=by
 unfold fT;split
 ·intro c hc;have:=jH (n:=(-1-z).toNat) (by omega);rcases List.mem_cons.1 hc with rfl|hc
  ·omega
  ·exact qN _ c hc
 ·exact iT (by omega)
theorem aJl {l:List aY}(h:SpR l):∀c ∈ eI l,c<256:=fun c hc=>by
 obtain⟨s,hs,hc⟩:=List.mem_flatMap.1 hc;have:=h s hs;rcases List.mem_append.1 hc with hc|hc
 ·exact iT (by omega) c hc
 ·exact iT (by omega) c hc
theorem iZ {l:List aY}(h:SpR l)(hl:l.length<=32):(iH l).length<=585 /\ ∀c ∈ iH l,c<256:=by
 have h1:=eY l h;have h2:=eW (n:=l.length) (by omega);refine⟨by rw[iH,List.length_append];omega,fun c hc=>?_⟩;rcases List.mem_append.1 hc with hc|hc
 ·exact iT (by omega) c hc
 ·exact aJl h c hc
theorem bY {l m:List Nat}{a b:Nat}(h:l.length<=a /\ ∀c ∈ l,c<256)(k:m.length<=b /\ ∀c ∈ m,c<256):(l++m).length<=a+b /\ ∀c ∈ l++m,c<256 :=
 ⟨by rw[List.length_append];omega,fun c hc=>(List.mem_append.1 hc).elim (h.2 c) (k.2 c)⟩
theorem cP {z:Int}(h1:z<18446744073709551616):(bH z.toNat).length<=9 /\ ∀c ∈ bH z.toNat,c<256:=⟨wY h1,aHi h1⟩
theorem lM {z:Int}(h0:-9223372036854775808<=z)(h1:z<9223372036854775808):(fT z).length<=9 /\ ∀c ∈ fT z,c<256:=⟨kV h0 h1,vN h0 h1⟩
theorem uD {k:fD}(h:bZ k=0):(oT k).length<=1179 /\ ∀c ∈ oT k,c<256:=by
 obtain⟨h1,h2,h3⟩:=nB h;exact bY (lM (by omega) (by omega)) (bY (iZ h2.1 h2.2) (iZ h3.1 h3.2))
theorem uF {k:gI}(h:dV k=true):(oW k).length<=1179 /\ ∀c ∈ oW k,c<256:=by
 obtain⟨h1,h2,h3,h4,h5⟩:=pH h;have:=bY (cP (z:=k.c) (by omega)) (bY (iZ h4 (by omega)) (bY (cP (z:=k.r) (by omega)) (cP (z:=k.b) (by omega))));exact⟨Nat.le_trans this.1 (by decide),this.2⟩
theorem nG {c:cQ}(h:bQ c=true)(hf:kL c)(h0:-9223372036854775808<=c.at')(h1:c.at'<9223372036854775808):(lJ c).length<=1215 /\ ∀x ∈ lJ c,x<256:=by
 obtain⟨f1,f2,f3,f4,f5⟩:=hf;obtain⟨k1,k2⟩:=mM h;unfold bQ at h;simp only[Bool.and_eq_true,decide_eq_true_eq]at h;obtain⟨_,hcl,_,hr⟩:=h;refine bY (cP (z:=c.k) (by omega)) (bY (cP (z:=c.cl) (by omega)) (bY (cP (z:=c.rq) (by omega)) (bY (b:=1179) (a:=9) ?_ ?_)))
 ·split
  ·exact cP (by omega)
  ·exact⟨Nat.zero_le _,nofun⟩
 ·unfold gH;split
  ·rename_i e;rw[if_pos e]at hr;exact uD (by simpa using hr)
  rename_i e2;rw[if_neg e2]at hr;split
  ·rename_i e;rw[if_pos e]at hr;exact uF hr
  rename_i e3;rw[if_neg e3]at hr;simp only[Bool.and_eq_true,decide_eq_true_eq]at hr;split
  ·have:=cP (z:=c.ct) (by omega);exact⟨by omega,this.2⟩
  ·split
   ·have:=lM h0 h1;exact⟨by omega,this.2⟩
   ·exact⟨Nat.zero_le _,nofun⟩
def vD (c:cQ)(w:World):Ending->World->Prop:=if bQ c=true then fun e w'=>Below w.heap.size w w' /\ ∃v,e = .returned (.tuple #[v,.int .i64 0])/\aT w' w.heap.size 5 .u8 v (ints (lJ c))/\Bytes w' v (lJ c) else fun e w'=>Below w.heap.size w w'/\e = .returned (.tuple #[.slice none 0 0,.int .i64 2])
theorem aHp (b:Nat)(v:Value)(l:List Nat)(k:fD)(wa:Option Addr)(wn wc:Nat)(ca:Option Addr)(cn cc:Nat)(w:World)(hw:dW w b v l)(hs:∀u,Kept w u (fun j=>j=b\/v.ownBlock=some j)->bP u k wa wn wc ca cn cc)
  (ho:-9223372036854775808<=k.o/\k.o<9223372036854775808) (h1:SpR k.w) (h2:SpR k.c) (hwl:k.w.length<=32) (hcl:k.c.length<=32) (hl:l.length+1300<=1000000) :
  Calls Tryz.prog 128 #[.pointer (some ⟨b,0,none⟩),.agg #[.int .i64 k.o,.slice wa wn wc,.slice ca cn cc]] w (rM b v (l++oT k) w):=by
 have h:=hs w (Kept.refl _ _);obtain rfl:=h.lw;obtain rfl:=h.lc;exact sT b v l k wa wc ca cc w hw hs ho h1 h2 hwl hcl hl
theorem aHr (b:Nat)(v:Value)(l:List Nat)(k:gI)(la:Option Addr)(ln lc:Nat)(w:World)(hw:dW w b v l)(hs:∀u,Kept w u (fun j=>j=b\/v.ownBlock=some j)->bV u k la ln lc)
  (h0:0<=k.c/\k.c<9223372036854775808) (h1:0<=k.r/\k.r<9223372036854775808) (h2:0<=k.b/\k.b<9223372036854775808) (h3:SpR k.l) (hll:k.l.length<=32) (hl:l.length+1300<=1000000) :
  Calls Tryz.prog 129 #[.pointer (some ⟨b,0,none⟩),.agg #[.int .i64 k.c,.slice la ln lc,.int .i64 k.r,.int .i64 k.b]] w (rM b v (l++oW k) w):=by
 have h:=hs w (Kept.refl _ _);obtain rfl:=h.ll;exact sU b v l k la lc w hw hs h0 h1 h2 h3 hll hl
theorem oX (c:cQ)(A:gO)(w:World)(h:aN w c A)(hf:kL c):Calls Tryz.prog 85 #[.agg (iJ c A).toArray] w (vD c w):=by
 have hat:=h.at0;have hat1:=h.at1;have F0:Fr (fun _=>False) w w [] (fun u=>aN u c A):=Fr.zero w nofun fun u ku=>h.below (ku.below (Nat.le_refl _) nofun);refine enter (F:=fun u L=>Fr (fun _=>False) w u L (fun u=>aN u c A)) (fun _=>0) [.g (jC (.x fun _=>c.k) c A)] [] Tryz.func85 rfl rfl F0 58 rfl ?_;clear F0 h;refine ga env (Fr.frm _ _ _) aA ?_;intro B u F;refine(cI c A u F.r).mono ?_;rintro e w2 ⟨rfl,hb⟩;cases hok:bQ c with
 | false =>
  refine⟨.b (.l false),_,rfl,(Fr.frm _ _ _).b,F.call hb,?_⟩;clear F hb;refine ga env (Fr.frm _ _ _) aA ?_;refine fa env (Fr.frm _ _ _) ?_;intro B u F;rw[vD,if_neg (by rw[hok];decide)];exact⟨F.bel,rfl⟩
 | true =>
 refine⟨.b (.l true),_,rfl,(Fr.frm _ _ _).b,F.call hb,?_⟩;clear F hb;have hsm:=nG hok hf hat hat1;obtain⟨f1,f2,f3,f4,f5⟩:=hf;obtain⟨k1,k2⟩:=mM hok;have hr:=hok;unfold bQ at hr;simp only[Bool.and_eq_true,decide_eq_true_eq]at hr;obtain⟨_,hcl,_,hr⟩:=hr;refine ga env (Fr.frm _ _ _) aA ?_;intro B u F;refine(rB c.k u).mono ?_;rintro e w2 ⟨rfl,hb⟩;have hid:=aHd k1 k2;have hn:cT c.k=true:=by unfold cT;simp only[Bool.and_eq_true,decide_eq_true_eq];exact⟨k1,k2⟩
 rw[hn];have hPW:lJ c=lJ c:=rfl
 conv at hPW=>rhs;unfold lJ gH
 unfold vD;rw[if_pos hok];generalize lJ c=PW at hPW hsm ⊢;rcases(by omega:c.k=2\/c.k=3\/c.k=4\/c.k=9\/c.k=1\/(¬c.k=2 /\ ¬c.k=3 /\ ¬c.k=4 /\ ¬c.k=9 /\ ¬c.k=1)) with hk|hk|hk|hk|hk|⟨hk2,hk3,hk4,hk9,hk1⟩
 ·have e2:(c.k==2)=true:=by rw[hk];rfl
  have e3:(c.k==3)=false:=by rw[hk];rfl
  have e4:(c.k==4)=false:=by rw[hk];rfl
  have e9:(c.k==9)=false:=by rw[hk];rfl
  have ei:idB c.k=true:=by rw[hk];rfl
  rw[ei,hk]at hPW;simp only[if_true]at hPW;rw[e2,e3,e4,e9,ei];refine⟨.t [.g [.b (.l true),.b (.l true),.b (.l false),.b (.l false),.b (.l false)],.b (.l true)],_,rfl,(Fr.frm _ _ _).b,F.call hb,?_⟩;clear F hb e2 e3 e4 e9 ei hid hn hok;refine ga env (Fr.frm _ _ _) aA ?_;refine iV 2 (fun B u F=>⟨FrW (B 2) w (.slice none 0 0) (fun u=>aN u c A) (.slice none 0 0) [],kO (L:=[(B 0,_),(B 1,_)]) F,?_⟩);have hwb:w.heap.size<=B 2:=(F.rng (B 2,_) (List.mem_of_getElem? (i:=2) rfl)).1;clear F;generalize B 2=b at hwb ⊢;clear B u;refine ga env fw aA ?_;refine cV bK [IntKind.u64.wrap c.k,c.cl,c.rq] fun g=>?_;refine ga env fw aA ?_;refine dS [c.k.toNat,c.cl.toNat,c.rq.toNat] (by rw[kS (by omega) (by omega)];show [_,c.cl,c.rq] = [_,((c.cl.toNat:Nat):Int),((c.rq.toNat:Nat):Int)];rw[Int.toNat_of_nonneg f1,Int.toNat_of_nonneg f2]) (by simp;omega) (by simp) fun v1=>?_;have hX9:=bG [c.k.toNat,c.cl.toNat,c.rq.toNat] (by simp;omega);rw[List.nil_append]at *
  generalize hX:aO [c.k.toNat,c.cl.toNat,c.rq.toNat]=X at hX9;refine ga env fw aA ?_;refine cV bK [c.id] fun g=>?_;refine ga env fw aA ?_;refine dS [c.id.toNat] (wnZ f4) (by simp;omega) (by simp at hX9 ⊢;omega) fun v2=>?_;have hY9:=bG [c.id.toNat] (by simp;omega);generalize hY:X++aO [c.id.toNat]=Y;have hYl:Y.length<=40:=by rw[<- hY,List.length_append];simp at hX9 hY9;omega
  refine ga env fw aA ?_;rw[if_pos hk]at hr;have hc0:bZ c.cal=0:=by simpa using hr
  obtain⟨g1,g2,g3⟩:=nB hc0;intro B u F;refine(aHp b _ Y c.cal A.wa A.wn A.wc A.ca A.cn A.cc u F.wr (fun x kx=>(F.s1 x (kx.mono fun j _ hj=>hj.elim .inl fun hj=>.inr (.inl hj))).cal) ⟨by omega,by omega⟩ g2.1 g3.1 g2.2 g3.2 (by omega)).mono ?_;rintro e w3 ⟨rfl,v3,hw3,hg3⟩;refine⟨.t [],_,rfl,fw.b,F.put hw3 hg3,?_⟩;clear F hw3 hg3;have hE:PW=Y++oT c.cal:=by rw[hPW,<- hY,<- hX,hk];simp[aO]
  rw[<- hE];refine ga env fw aA ?_;intro B u F;refine(eM b _ PW u F.wr (by omega) hsm.2).mono ?_;rintro e w4 ⟨v4,rfl,ho,hb4,hbl⟩;obtain⟨a4,c4,rfl,_⟩:=hb4.shape;have hsz:=(F.bel hwb rfl).size;have hB:=(F.bel hwb rfl).trans (hbl.mono hsz);refine⟨.sl (fun _=>a4) (fun _=>PW.length) (fun _=>c4),_,rfl,fw.b,F.gG hbl (R':=fun u=>aT u w.heap.size 5 .u8 (.slice a4 PW.length c4) (ints PW)/\Bytes u (.slice a4 PW.length c4) PW) (fun x kx=>?_),?_⟩
  ·have hno:∀j,(Value.slice a4 PW.length c4).ownBlock=some j -> ¬j<u.heap.size:=fun j hj=>Nat.not_lt.2 (ho.lt j hj).1;exact⟨(ho.lower fun j hj=>Nat.le_trans hsz (ho.lt j hj).1).kept kx hno,hb4.kept kx hno⟩
  clear F hbl ho hb4 hB hsz;refine ga env fw aA ?_;refine fa env fw ?_;intro B u F;exact⟨F.bel hwb rfl,_,rfl,F.now.1.1,F.now.1.2⟩
 ·have e2:(c.k==2)=false:=by rw[hk];rfl
  have e3:(c.k==3)=true:=by rw[hk];rfl
  have e4:(c.k==4)=false:=by rw[hk];rfl
  have e9:(c.k==9)=false:=by rw[hk];rfl
  have ei:idB c.k=true:=by rw[hk];rfl
  rw[ei,hk]at hPW;simp only[if_true,(by decide:¬(3:Int)=2),if_false]at hPW;rw[e2,e3,e4,e9,ei];refine⟨.t [.g [.b (.l true),.b (.l false),.b (.l true),.b (.l false),.b (.l false)],.b (.l true)],_,rfl,(Fr.frm _ _ _).b,F.call hb,?_⟩;clear F hb e2 e3 e4 e9 ei hid hn hok;refine ga env (Fr.frm _ _ _) aA ?_;refine iV 2 (fun B u F=>⟨FrW (B 2) w (.slice none 0 0) (fun u=>aN u c A) (.slice none 0 0) [],kO (L:=[(B 0,_),(B 1,_)]) F,?_⟩);have hwb:w.heap.size<=B 2:=(F.rng (B 2,_) (List.mem_of_getElem? (i:=2) rfl)).1;clear F;generalize B 2=b at hwb ⊢;clear B u;refine ga env fw aA ?_;refine cV bK [IntKind.u64.wrap c.k,c.cl,c.rq] fun g=>?_;refine ga env fw aA ?_;refine dS [c.k.toNat,c.cl.toNat,c.rq.toNat] (by rw[kS (by omega) (by omega)];show [_,c.cl,c.rq] = [_,((c.cl.toNat:Nat):Int),((c.rq.toNat:Nat):Int)];rw[Int.toNat_of_nonneg f1,Int.toNat_of_nonneg f2]) (by simp;omega) (by simp) fun v1=>?_;have hX9:=bG [c.k.toNat,c.cl.toNat,c.rq.toNat] (by simp;omega);rw[List.nil_append]at *
  generalize hX:aO [c.k.toNat,c.cl.toNat,c.rq.toNat]=X at hX9;refine ga env fw aA ?_;refine cV bK [c.id] fun g=>?_;refine ga env fw aA ?_;refine dS [c.id.toNat] (wnZ f4) (by simp;omega) (by simp at hX9 ⊢;omega) fun v2=>?_;have hY9:=bG [c.id.toNat] (by simp;omega);generalize hY:X++aO [c.id.toNat]=Y;have hYl:Y.length<=40:=by rw[<- hY,List.length_append];simp at hX9 hY9;omega
  refine ga env fw aA ?_;rw[if_neg (by omega),if_pos hk]at hr;obtain⟨g1,g2,g3,g4,g5⟩:=pH hr;intro B u F;refine(aHr b _ Y c.tm A.la A.ln A.lc u F.wr (fun x kx=>(F.s1 x (kx.mono fun j _ hj=>hj.elim .inl fun hj=>.inr (.inl hj))).tm) ⟨by omega,by omega⟩ ⟨by omega,by omega⟩ ⟨by omega,by omega⟩ g4 (by omega) (by omega)).mono ?_;rintro e w3 ⟨rfl,v3,hw3,hg3⟩;refine⟨.t [],_,rfl,fw.b,F.put hw3 hg3,?_⟩;clear F hw3 hg3;have hE:PW=Y++oW c.tm:=by rw[hPW,<- hY,<- hX,hk];simp[aO]
  rw[<- hE];refine ga env fw aA ?_;intro B u F;refine(eM b _ PW u F.wr (by omega) hsm.2).mono ?_;rintro e w4 ⟨v4,rfl,ho,hb4,hbl⟩;obtain⟨a4,c4,rfl,_⟩:=hb4.shape;have hsz:=(F.bel hwb rfl).size;have hB:=(F.bel hwb rfl).trans (hbl.mono hsz);refine⟨.sl (fun _=>a4) (fun _=>PW.length) (fun _=>c4),_,rfl,fw.b,F.gG hbl (R':=fun u=>aT u w.heap.size 5 .u8 (.slice a4 PW.length c4) (ints PW)/\Bytes u (.slice a4 PW.length c4) PW) (fun x kx=>?_),?_⟩
  ·have hno:∀j,(Value.slice a4 PW.length c4).ownBlock=some j -> ¬j<u.heap.size:=fun j hj=>Nat.not_lt.2 (ho.lt j hj).1;exact⟨(ho.lower fun j hj=>Nat.le_trans hsz (ho.lt j hj).1).kept kx hno,hb4.kept kx hno⟩
  clear F hbl ho hb4 hB hsz;refine ga env fw aA ?_;refine fa env fw ?_;intro B u F;exact⟨F.bel hwb rfl,_,rfl,F.now.1.1,F.now.1.2⟩
 ·have e2:(c.k==2)=false:=by rw[hk];rfl
  have e3:(c.k==3)=false:=by rw[hk];rfl
  have e4:(c.k==4)=true:=by rw[hk];rfl
  have e9:(c.k==9)=false:=by rw[hk];rfl
  have ei:idB c.k=true:=by rw[hk];rfl
  rw[ei,hk]at hPW;simp only[if_true,(by decide:¬(4:Int)=2),(by decide:¬(4:Int)=3),if_false]at hPW;rw[e2,e3,e4,e9,ei];refine⟨.t [.g [.b (.l true),.b (.l false),.b (.l false),.b (.l true),.b (.l false)],.b (.l true)],_,rfl,(Fr.frm _ _ _).b,F.call hb,?_⟩;clear F hb e2 e3 e4 e9 ei hid hn hok;refine ga env (Fr.frm _ _ _) aA ?_;refine iV 2 (fun B u F=>⟨FrW (B 2) w (.slice none 0 0) (fun u=>aN u c A) (.slice none 0 0) [],kO (L:=[(B 0,_),(B 1,_)]) F,?_⟩);have hwb:w.heap.size<=B 2:=(F.rng (B 2,_) (List.mem_of_getElem? (i:=2) rfl)).1;clear F;generalize B 2=b at hwb ⊢;clear B u;refine ga env fw aA ?_;refine cV bK [IntKind.u64.wrap c.k,c.cl,c.rq] fun g=>?_;refine ga env fw aA ?_;refine dS [c.k.toNat,c.cl.toNat,c.rq.toNat] (by rw[kS (by omega) (by omega)];show [_,c.cl,c.rq] = [_,((c.cl.toNat:Nat):Int),((c.rq.toNat:Nat):Int)];rw[Int.toNat_of_nonneg f1,Int.toNat_of_nonneg f2]) (by simp;omega) (by simp) fun v1=>?_;have hX9:=bG [c.k.toNat,c.cl.toNat,c.rq.toNat] (by simp;omega);rw[List.nil_append]at *
  generalize hX:aO [c.k.toNat,c.cl.toNat,c.rq.toNat]=X at hX9;refine ga env fw aA ?_;refine cV bK [c.id] fun g=>?_;refine ga env fw aA ?_;refine dS [c.id.toNat] (wnZ f4) (by simp;omega) (by simp at hX9 ⊢;omega) fun v2=>?_;have hY9:=bG [c.id.toNat] (by simp;omega);generalize hY:X++aO [c.id.toNat]=Y;have hYl:Y.length<=40:=by rw[<- hY,List.length_append];simp at hX9 hY9;omega
  refine ga env fw aA ?_;rw[if_neg (by omega),if_neg (by omega)]at hr;simp only[Bool.and_eq_true,decide_eq_true_eq]at hr;refine cV bK [IntKind.u64.wrap c.ct] fun g=>?_;refine ga env fw aA ?_;refine dS [c.ct.toNat] (bKg (by omega) (by omega)) (by simp;omega) (by simp;omega) fun v3=>?_;have hE:PW=Y++aO [c.ct.toNat]:=by rw[hPW,<- hY,<- hX,hk];simp[aO]
  rw[<- hE];refine ga env fw aA ?_;intro B u F;refine(eM b _ PW u F.wr (by omega) hsm.2).mono ?_;rintro e w4 ⟨v4,rfl,ho,hb4,hbl⟩;obtain⟨a4,c4,rfl,_⟩:=hb4.shape;have hsz:=(F.bel hwb rfl).size;have hB:=(F.bel hwb rfl).trans (hbl.mono hsz);refine⟨.sl (fun _=>a4) (fun _=>PW.length) (fun _=>c4),_,rfl,fw.b,F.gG hbl (R':=fun u=>aT u w.heap.size 5 .u8 (.slice a4 PW.length c4) (ints PW)/\Bytes u (.slice a4 PW.length c4) PW) (fun x kx=>?_),?_⟩
  ·have hno:∀j,(Value.slice a4 PW.length c4).ownBlock=some j -> ¬j<u.heap.size:=fun j hj=>Nat.not_lt.2 (ho.lt j hj).1;exact⟨(ho.lower fun j hj=>Nat.le_trans hsz (ho.lt j hj).1).kept kx hno,hb4.kept kx hno⟩
  clear F hbl ho hb4 hB hsz;refine ga env fw aA ?_;refine fa env fw ?_;intro B u F;exact⟨F.bel hwb rfl,_,rfl,F.now.1.1,F.now.1.2⟩
 ·have e2:(c.k==2)=false:=by rw[hk];rfl
  have e3:(c.k==3)=false:=by rw[hk];rfl
  have e4:(c.k==4)=false:=by rw[hk];rfl
  have e9:(c.k==9)=true:=by rw[hk];rfl
  have ei:idB c.k=false:=by rw[hk];rfl
  rw[ei,hk]at hPW;simp only[Bool.false_eq_true,if_true,(by decide:¬(9:Int)=2),(by decide:¬(9:Int)=3),(by decide:¬(9:Int)=4),if_false]at hPW;rw[e2,e3,e4,e9,ei];refine⟨.t [.g [.b (.l false),.b (.l false),.b (.l false),.b (.l false),.b (.l true)],.b (.l true)],_,rfl,(Fr.frm _ _ _).b,F.call hb,?_⟩;clear F hb e2 e3 e4 e9 ei hid hn hok;refine ga env (Fr.frm _ _ _) aA ?_;refine iV 2 (fun B u F=>⟨FrW (B 2) w (.slice none 0 0) (fun u=>aN u c A) (.slice none 0 0) [],kO (L:=[(B 0,_),(B 1,_)]) F,?_⟩);have hwb:w.heap.size<=B 2:=(F.rng (B 2,_) (List.mem_of_getElem? (i:=2) rfl)).1;clear F;generalize B 2=b at hwb ⊢;clear B u;refine ga env fw aA ?_;refine cV bK [IntKind.u64.wrap c.k,c.cl,c.rq] fun g=>?_;refine ga env fw aA ?_;refine dS [c.k.toNat,c.cl.toNat,c.rq.toNat] (by rw[kS (by omega) (by omega)];show [_,c.cl,c.rq] = [_,((c.cl.toNat:Nat):Int),((c.rq.toNat:Nat):Int)];rw[Int.toNat_of_nonneg f1,Int.toNat_of_nonneg f2]) (by simp;omega) (by simp) fun v1=>?_;have hX9:=bG [c.k.toNat,c.cl.toNat,c.rq.toNat] (by simp;omega);rw[List.nil_append]at *
  generalize hX:aO [c.k.toNat,c.cl.toNat,c.rq.toNat]=X at hX9;refine ga env fw aA ?_;have hYl:X.length<=40:=by simp at hX9;omega
  refine cV mP [c.at'] fun g=>?_;refine ga env fw aA ?_;refine wB c.at' hat hat1 (by omega) fun v3=>?_;have hE:PW=X++fT c.at':=by rw[hPW,<- hX,hk];simp[aO]
  rw[<- hE];refine ga env fw aA ?_;intro B u F;refine(eM b _ PW u F.wr (by omega) hsm.2).mono ?_;rintro e w4 ⟨v4,rfl,ho,hb4,hbl⟩;obtain⟨a4,c4,rfl,_⟩:=hb4.shape;have hsz:=(F.bel hwb rfl).size;have hB:=(F.bel hwb rfl).trans (hbl.mono hsz);refine⟨.sl (fun _=>a4) (fun _=>PW.length) (fun _=>c4),_,rfl,fw.b,F.gG hbl (R':=fun u=>aT u w.heap.size 5 .u8 (.slice a4 PW.length c4) (ints PW)/\Bytes u (.slice a4 PW.length c4) PW) (fun x kx=>?_),?_⟩
  ·have hno:∀j,(Value.slice a4 PW.length c4).ownBlock=some j -> ¬j<u.heap.size:=fun j hj=>Nat.not_lt.2 (ho.lt j hj).1;exact⟨(ho.lower fun j hj=>Nat.le_trans hsz (ho.lt j hj).1).kept kx hno,hb4.kept kx hno⟩
  clear F hbl ho hb4 hB hsz;refine ga env fw aA ?_;refine fa env fw ?_;intro B u F;exact⟨F.bel hwb rfl,_,rfl,F.now.1.1,F.now.1.2⟩
 ·have e2:(c.k==2)=false:=by rw[hk];rfl
  have e3:(c.k==3)=false:=by rw[hk];rfl
  have e4:(c.k==4)=false:=by rw[hk];rfl
  have e9:(c.k==9)=false:=by rw[hk];rfl
  have ei:idB c.k=false:=by rw[hk];rfl
  rw[ei,hk]at hPW;simp only[Bool.false_eq_true,(by decide:¬(1:Int)=2),(by decide:¬(1:Int)=3),(by decide:¬(1:Int)=4),(by decide:¬(1:Int)=9),if_false]at hPW;rw[e2,e3,e4,e9,ei];refine⟨.t [.g [.b (.l false),.b (.l false),.b (.l false),.b (.l false),.b (.l false)],.b (.l true)],_,rfl,(Fr.frm _ _ _).b,F.call hb,?_⟩;clear F hb e2 e3 e4 e9 ei hid hn hok;refine ga env (Fr.frm _ _ _) aA ?_;refine iV 2 (fun B u F=>⟨FrW (B 2) w (.slice none 0 0) (fun u=>aN u c A) (.slice none 0 0) [],kO (L:=[(B 0,_),(B 1,_)]) F,?_⟩);have hwb:w.heap.size<=B 2:=(F.rng (B 2,_) (List.mem_of_getElem? (i:=2) rfl)).1;clear F;generalize B 2=b at hwb ⊢;clear B u;refine ga env fw aA ?_;refine cV bK [IntKind.u64.wrap c.k,c.cl,c.rq] fun g=>?_;refine ga env fw aA ?_;refine dS [c.k.toNat,c.cl.toNat,c.rq.toNat] (by rw[kS (by omega) (by omega)];show [_,c.cl,c.rq] = [_,((c.cl.toNat:Nat):Int),((c.rq.toNat:Nat):Int)];rw[Int.toNat_of_nonneg f1,Int.toNat_of_nonneg f2]) (by simp;omega) (by simp) fun v1=>?_;have hX9:=bG [c.k.toNat,c.cl.toNat,c.rq.toNat] (by simp;omega);rw[List.nil_append]at *
  generalize hX:aO [c.k.toNat,c.cl.toNat,c.rq.toNat]=X at hX9;refine ga env fw aA ?_;have hYl:X.length<=40:=by simp at hX9;omega
  have hE:PW=X:=by rw[hPW,<- hX,hk];simp[aO]
  rw[<- hE];intro B u F;refine(eM b _ PW u F.wr (by omega) hsm.2).mono ?_;rintro e w4 ⟨v4,rfl,ho,hb4,hbl⟩;obtain⟨a4,c4,rfl,_⟩:=hb4.shape;have hsz:=(F.bel hwb rfl).size;have hB:=(F.bel hwb rfl).trans (hbl.mono hsz);refine⟨.sl (fun _=>a4) (fun _=>PW.length) (fun _=>c4),_,rfl,fw.b,F.gG hbl (R':=fun u=>aT u w.heap.size 5 .u8 (.slice a4 PW.length c4) (ints PW)/\Bytes u (.slice a4 PW.length c4) PW) (fun x kx=>?_),?_⟩
  ·have hno:∀j,(Value.slice a4 PW.length c4).ownBlock=some j -> ¬j<u.heap.size:=fun j hj=>Nat.not_lt.2 (ho.lt j hj).1;exact⟨(ho.lower fun j hj=>Nat.le_trans hsz (ho.lt j hj).1).kept kx hno,hb4.kept kx hno⟩
  clear F hbl ho hb4 hB hsz;refine ga env fw aA ?_;refine fa env fw ?_;intro B u F;exact⟨F.bel hwb rfl,_,rfl,F.now.1.1,F.now.1.2⟩
 ·have e2:(c.k==2)=false:=beq_eq_false_iff_ne.2 hk2;have e3:(c.k==3)=false:=beq_eq_false_iff_ne.2 hk3;have e4:(c.k==4)=false:=beq_eq_false_iff_ne.2 hk4;have e9:(c.k==9)=false:=beq_eq_false_iff_ne.2 hk9;have ei:idB c.k=true:=hid.2 ⟨hk1,hk9⟩;rw[ei,if_pos rfl,if_neg hk2,if_neg hk3,if_neg hk4,if_neg hk9]at hPW;rw[e2,e3,e4,e9,ei];refine⟨.t [.g [.b (.l true),.b (.l false),.b (.l false),.b (.l false),.b (.l false)],.b (.l true)],_,rfl,(Fr.frm _ _ _).b,F.call hb,?_⟩;clear F hb e2 e3 e4 e9 ei hid hn hok;refine ga env (Fr.frm _ _ _) aA ?_;refine iV 2 (fun B u F=>⟨FrW (B 2) w (.slice none 0 0) (fun u=>aN u c A) (.slice none 0 0) [],kO (L:=[(B 0,_),(B 1,_)]) F,?_⟩);have hwb:w.heap.size<=B 2:=(F.rng (B 2,_) (List.mem_of_getElem? (i:=2) rfl)).1;clear F;generalize B 2=b at hwb ⊢;clear B u;refine ga env fw aA ?_;refine cV bK [IntKind.u64.wrap c.k,c.cl,c.rq] fun g=>?_;refine ga env fw aA ?_;refine dS [c.k.toNat,c.cl.toNat,c.rq.toNat] (by rw[kS (by omega) (by omega)];show [_,c.cl,c.rq] = [_,((c.cl.toNat:Nat):Int),((c.rq.toNat:Nat):Int)];rw[Int.toNat_of_nonneg f1,Int.toNat_of_nonneg f2]) (by simp;omega) (by simp) fun v1=>?_;have hX9:=bG [c.k.toNat,c.cl.toNat,c.rq.toNat] (by simp;omega);rw[List.nil_append]at *
  generalize hX:aO [c.k.toNat,c.cl.toNat,c.rq.toNat]=X at hX9;refine ga env fw aA ?_;refine cV bK [c.id] fun g=>?_;refine ga env fw aA ?_;refine dS [c.id.toNat] (wnZ f4) (by simp;omega) (by simp at hX9 ⊢;omega) fun v2=>?_;have hY9:=bG [c.id.toNat] (by simp;omega);generalize hY:X++aO [c.id.toNat]=Y;have hYl:Y.length<=40:=by rw[<- hY,List.length_append];simp at hX9 hY9;omega
  refine ga env fw aA ?_;have hE:PW=Y:=by rw[hPW,<- hY,<- hX];simp[aO]
  rw[<- hE];intro B u F;refine(eM b _ PW u F.wr (by omega) hsm.2).mono ?_;rintro e w4 ⟨v4,rfl,ho,hb4,hbl⟩;obtain⟨a4,c4,rfl,_⟩:=hb4.shape;have hsz:=(F.bel hwb rfl).size;have hB:=(F.bel hwb rfl).trans (hbl.mono hsz);refine⟨.sl (fun _=>a4) (fun _=>PW.length) (fun _=>c4),_,rfl,fw.b,F.gG hbl (R':=fun u=>aT u w.heap.size 5 .u8 (.slice a4 PW.length c4) (ints PW)/\Bytes u (.slice a4 PW.length c4) PW) (fun x kx=>?_),?_⟩
  ·have hno:∀j,(Value.slice a4 PW.length c4).ownBlock=some j -> ¬j<u.heap.size:=fun j hj=>Nat.not_lt.2 (ho.lt j hj).1;exact⟨(ho.lower fun j hj=>Nat.le_trans hsz (ho.lt j hj).1).kept kx hno,hb4.kept kx hno⟩
  clear F hbl ho hb4 hB hsz;refine ga env fw aA ?_;refine fa env fw ?_;intro B u F;exact⟨F.bel hwb rfl,_,rfl,F.now.1.1,F.now.1.2⟩
