/- For scbodies_law_holds. -/
import Derived.Test.YtgeihgombjbkbaaGreatSbb21
import Derived.Test.YtgeihgombjbkbaaGreatSbb30
set_option maxHeartbeats 16000000
set_option maxRecDepth 100000
namespace Go.Proofs.Own
open Go Go.RowKit
section
variable {P:Program} {Q:Exit->Act->World->Prop} {k8:KB} {F:World->Bx->Prop} {s:St} {k:List KF} {b rb:Nat} {w0 w w':World} {R Z R' Z':World->Prop} {e:TypeId} {sz:Nat} {v:Value} {rs:List (List Value)} {L:Bx}
theorem aLW (f:Fr (fun _=>False) w0 w L R)(hb:Below w.heap.size w w')(e:TypeId)(sz:Nat)(hbs:w.heap.size<=b)(hlt:b<w'.heap.size)(hrl:rb<w'.heap.size)(hne:∀p ∈ L,p.1≠rb)
  (hz:∀U:Nat->Prop,¬U b -> ¬U rb->Sf U w' Z'):FrD b rb w0 (fun _=>True) Z' e sz (.slice none 0 0) [] w' L:=by
 have hw:=f.bel.size;have hr:∀k,k ∈ L.map (·.1)->w0.heap.size<=k/\k<w.heap.size/\k≠rb:=fun k hk=>by
  obtain⟨p,hp,rfl⟩:=List.mem_map.1 hk;exact⟨(f.rng p hp).1,(f.rng p hp).2,hne p hp⟩
 refine⟨fun i p hp=>(f.box i p hp).below hb,f.inj,fun k hk=>?_,⟨hlt,hrl⟩,?_,dC.nil _ _ _ _,nofun,fun _ _=>trivial,?_⟩
 ·have:=hr k hk;exact⟨this.1,by omega,this.2.2⟩
 ·exact Kept.aY (f.bel.trans (hb.mono hw)) (fun k h1 h2=>by omega)
 ·refine hz _ (fun h=>?_) (fun h=>?_)
  ·rcases h with h|h
   ·cases h
   ·have:=hr _ h;omega
  ·rcases h with h|h
   ·cases h
   ·exact(hr _ h).2.2 rfl
theorem bJC {bx:List (List AV)}(F2:World->Bx->Prop){c:Cf}(h1:∀B w,F w (mkB B 0 s.bx)->F2 w (mkB B 0 bx))(h:Ok P Q F2 c ⟨s.tm,bx⟩ k)(hc:aIz c=true:=by rfl):Ok P Q F c s k:=fun B w H=>by
 have q:=h B w (h1 B w H);cases c with
 | code c=>exact q
 | ops l r=>exact q
 | ex e=>exact q
 | pl=>cases hc
 | hd=>cases hc
def Hd (b0:Nat)(F:World->Bx->Prop):World->Bx->Prop:=fun w L=>F w L/\L.head?.map (·.1)=some b0
theorem Hd.frm {b0:Nat}(h:Frm F k8):Frm (Hd b0 F) k8:=by
 refine⟨fun H _ _ hi=>h.box H.1 hi,fun {w L} H {i b o c vs} hi hl h8 hr=>⟨h.set H.1 hi hl h8 hr,?_⟩,fun {w L} H {c t} h8=>⟨h.new H.1 h8,?_⟩,fun H=>⟨h.drew H.1,H.2⟩⟩
 ·have h2:=H.2;cases L with
  | nil=>cases hi
  | cons p L =>
   cases i with
   | zero=>cases hi;exact h2
   | succ i=>exact h2
 ·have h2:=H.2;cases L with
  | nil=>cases h2
  | cons p L=>exact h2
theorem aIb {c:Cf}(j:Nat)(a:AV)(hk:Ok P Q F c ⟨setN s.tm j a,s.bx⟩ k)(h:∀B,(getT s.tm j).den B=a.den B:=by intro B;rfl):bO P Q F k8 (.at c s k):=aLP j a h hk
theorem bJI {c:Code}(h:Ok P (Exit.noGoto Q) F (.code c) s []):bO P Q F k8 (.at (.code (.scope c)) s []):=fun B w H=>wp_scope_straight (h B w H)
theorem aG {tt:TypeId->Option TI}{fs:FuncId->Bool}(E:Env P Q tt fs):Env P (Exit.noGoto Q) tt fs:=⟨E.tt,E.mix,fun c a t w h=>E.pan c a t w h,E.fs⟩
theorem mY {tt:TypeId->Option TI}{fs:FuncId->Bool}{fn:Func}{Rp:Ending->World->Prop}(E:Env P (bodyPost P fn Rp) tt fs)(hF:Frm F k8){e:Ex}{r:List AV}(h:∀B w,F w (mkB B 0 s.bx)->Rp (.returned ((resV r).den B)) w)(he:e = .ret\/e = .n:=by first|exact .inl rfl|exact .inr rfl)(hr:resL tt s fn.results.toList=some r:=by cbv):bO P (Exit.noGoto (bodyPost P fn Rp)) F k8 (.fin e s):=fun B w H=>by
 have q:=aH9 E.tt hF he hr h B w H;rcases he with rfl|rfl
 ·exact q
 ·exact q
theorem fE {w:World}{b o d:Nat}{cs sub:List Value}(h:w.rangeAt b o cs)(hs:(cs.drop d).take sub.length=sub):w.rangeAt b (o+d) sub:=fun j v hv=>by
 rw[<- hs,List.getElem?_take]at hv;split at hv
 ·rw[List.getElem?_drop]at hv;have:=h (d+j) v hv
  rwa [<- Nat.add_assoc]at this
 ·cases hv
theorem aKZ {t e2:TypeId}{N sz2:Nat}{ps:Array (Nat × Operand)}{l:List Oper}{J j:Nat}{m:List Bool}{bx:List (List AV)}{ok:Bool}{st:List Stg}{o:Oper}{ie:TypeInfo}{z:Value}(q:List AV)
  (h:∀(b0 bb:Nat),Ok P Q (Hd b0 (FrD b rb w0 (fun u=>u.rangeAt bb 0 (AV.denL (fun _=>b0) q)/\R u) Z e sz v rs)) (.pl l J m bx ok st) (s.put o.dst (.sl (fun _=>some ⟨bb,0,none⟩) (fun _=>N) (fun _=>N))) k)
  (hie:P.info? e2=some ie) (hz:ie.zero=some z) (hsz:ie.size=sz2) (hu:P.underlying t=some (.slice e2))
  (hj:getN l j=some o:=by rfl) (ho:o.op = .buildSlice t N ps:=by rfl)
  (hf:∀B,Instr.fill (fun i=>some (i*sz2,sz2)) ((Array.range (N*sz2)).map (z.cells[· % z.cells.size]!)) (ps.map fun (i,x)=>(i,(s.act B).eval x)).toList=some (AV.denL B q).toArray:=by intro B;kernel_rfl) (hq:AV.wfL 1 q=true:=by rfl) (hbx:∃c r,s.bx=c::r:=by exact⟨_,_,rfl⟩)
  (hN:Nat.ble (N*sz2) 16777216=true:=by rfl) (hN0:Nat.ble 1 (N*sz2)=true:=by rfl) (hw:wantA l s o=some true:=by rfl) (hJ:J.testBit j=false:=by rfl) :
  bO P Q (FrD b rb w0 R Z e sz v rs) k8 (.at (.pl l J m bx ok (.o j::st)) s k):=fun B w F S ha=>by
 have g1:(l.drop j).take 1 = [o]:=by
  rw[dH]at hj;obtain⟨hl,he⟩:=List.getElem?_eq_some_iff.1 hj;rw[List.drop_eq_getElem_cons hl,he];rfl
 have hN:=Nat.le_of_ble_eq_true hN;have hN0:=Nat.le_of_ble_eq_true hN0;refine mO ?_;rw[g1];refine bU (aR hw) (wp_buildSlice t e2 N ps ho (AV.denL B q).toArray ie z hu hie hz (by rw[hsz];omega) (by rw[hsz];omega) (by rw[hsz];exact hf B) ?_);refine wpList_nil (gI (fun e=>by rw[hJ]at e;cases e) ?_);have hb:Below w.heap.size w (w.alloc (.cells (AV.denL B q).toArray e2)):=(Below.refl _ _).alloc (Nat.le_refl _) _;have hd:AV.denL B q=AV.denL (fun _=>B 0) q:=AV.cO (n:=1) (fun i hi=>by rw[show i=0 by omega]) q hq;have hbn:=Box.new (w:=w) (c:=AV.denL B q) (t:=e2);have F':=F.tM hb (R':=fun u=>u.rangeAt w.heap.size 0 (AV.denL (fun _=>B 0) q)) fun u ku=>by
  rw[<- hd];intro i y hi;rw[Nat.zero_add];exact((hbn.kept ku (by simp)).2 i y hi).1
 have hh:Hd (B 0) (FrD b rb w0 (fun u=>u.rangeAt w.heap.size 0 (AV.denL (fun _=>B 0) q)/\R u) Z e sz v rs) (w.alloc (.cells (AV.denL B q).toArray e2)) (mkB B 0 s.bx):=⟨F',by
  obtain⟨c,r,e⟩:=hbx;rw[e];rfl⟩
 have:=h (B 0) w.heap.size B _ (by cases o.dst<;>exact hh) S (by cases o.dst<;>exact ha);rw[St.cJ]at this;exact this
end
end Go.Proofs.Own
namespace Go.Proofs.YtgeihgombjbkbaaGreat
open Go.RowKit Go.Maps Go.Proofs.Own
theorem Bytes.blk {w:World}{v:Value}{l:List Nat}(h:Bytes w v l)(h0:l ≠ []):∃rb,v.ownBlock=some rb/\rb<w.heap.size /\ ∃j x,w.cell? ⟨rb,j,none⟩=some (.int .u8 x):=by
 obtain⟨a,c,e,hc⟩:=h.rd;obtain⟨b,o,rfl,h1⟩:=hc 0 (by rw[aF];exact List.length_pos_iff.2 h0);subst e;exact⟨b,rfl,World.block_lt_of_cell? _ _ h1,_,_,h1⟩
theorem lK {b rb b0:Nat}{w0:World}{R:World->Prop}{e:TypeId}{sz:Nat}{v:Value}{rs:List (List Value)}{Q:Exit->Act->World->Prop}{k8:KB}{s:St}{k:List KF}{c:Cf}{dst:Option Tmp}{t:RS}(m:Nat)(M:Int)(hM:M=(m:Int))(hm:(m:Int)<18446744073709551616)(h:Ok Tryz.prog Q (Hd b0 (FrD b rb w0 R (Rz b rb (nS m t)) e sz v rs)) c (s.put dst (.i .u64 (.x fun _=>(aB m t.1:Nat)))) k) :
  bO Tryz.prog Q (Hd b0 (FrD b rb w0 R (Rz b rb t) e sz v rs)) k8 (.call 23 [.pa (fun _=>⟨b,0,none⟩),.i .u64 (.l M)] dst c s k):=fun B w F=>by
 subst hM;refine(pC b m t.1 t.2 w F.1.z (by omega) hm).mono ?_;rintro e w' ⟨rfl,h1,h2⟩;rw[Int.toNat_natCast]at *
 exact⟨_,_,rfl,(Hd.frm fd).b,⟨F.1.rd h2 (dT (t:=nS m t) h1),F.2⟩,h⟩
theorem nT {w0 w:World}{R:World->Prop}{L:Bx}(F:Own.Fn (fun _=>False) w0 w L R){v:Value}{l:List Nat}(hB:Bytes w v l){r0:Nat}(hr0:r0<w0.heap.size):∃rb,(l = []\/v.ownBlock=some rb)/\rb<w.heap.size /\ ∀p ∈ L,p.1≠rb:=by
 by_cases h0:l = []
 ·refine⟨r0,.inl h0,Nat.lt_of_lt_of_le hr0 F.bel.size,fun p hp e=>?_⟩;have:=(F.rng p hp).1;omega
 ·obtain⟨rb,h1,h2,j,x,h3⟩:=hB.blk h0;refine⟨rb,.inr h1,h2,fun p hp e=>?_⟩;exact F.n8 p hp j x (e ▸ h3)
theorem aLS {w0 w:World}{R:World->Prop}{L:Bx}{b rb:Nat}{v:Value}{l:List Nat}{bad:Bool}(e:TypeId)(sz:Nat)(f:Own.Fn (fun _=>False) w0 w (L ++ [(b,[v,.bool bad])]) R)(hB:Bytes w v l)(hv:l = []\/v.ownBlock=some rb)(hrl:rb<w.heap.size)(hne:∀p ∈ L ++ [(b,[v,.bool bad])],p.1≠rb):FrD b rb w0 (fun _=>True) (Rz b rb (l,bad)) e sz (.slice none 0 0) [] w L:=by
 have hw:=f.bel.size;have hi:(L ++ [(b,[v,Value.bool bad])])[L.length]? = some (b,[v,.bool bad]):=by simp
 have hbx:=f.box _ _ hi;have hb:=(f.rng _ (List.mem_of_getElem? hi)).1;have hnb:rb≠b:=fun h=>hne _ (List.mem_of_getElem? hi) h.symm;have hr:∀k,k ∈ L.map (·.1)->w0.heap.size<=k/\k<w.heap.size/\k≠b/\k≠rb:=fun k hk=>by
  obtain⟨p,hp,rfl⟩:=List.mem_map.1 hk;have h1:=f.rng p (List.mem_append_left _ hp);obtain⟨j,hj⟩:=List.getElem?_of_mem hp;have hjl:=(List.getElem?_eq_some_iff.1 hj).1;refine⟨h1.1,h1.2,fun h=>?_,hne p (List.mem_append_left _ hp)⟩;have:=f.inj j L.length p _ (by rw[List.getElem?_append_left hjl];exact hj) hi h;omega
 have hrd:aE w b rb l bad:=⟨⟨v,(hbx.2 0 v rfl).1,hB,hv⟩,hnb,(hbx.2 1 _ rfl).1,(hbx.2 0 v rfl).2,(hbx.2 1 _ rfl).2⟩;refine⟨fun i p hp=>f.box i p (by rw[List.getElem?_append_left (List.getElem?_eq_some_iff.1 hp).1];exact hp),fun i j p q hp hq=>f.inj i j p q (by rw[List.getElem?_append_left (List.getElem?_eq_some_iff.1 hp).1];exact hp) (by rw[List.getElem?_append_left (List.getElem?_eq_some_iff.1 hq).1];exact hq),fun k hk=>?_,⟨hbx.1,hrl⟩,Kept.aY f.bel (fun k h1 h2=>by omega),dC.nil _ _ _ _,nofun,fun _ _=>trivial,dT (t:=(l,bad)) hrd _ (fun h=>?_) (fun h=>?_)⟩
 ·have:=hr k hk;exact⟨this.1,this.2.2⟩
 ·rcases h with h|h
  ·cases h
  ·exact(hr _ h).2.2.1 rfl
 ·rcases h with h|h
  ·cases h
  ·exact(hr _ h).2.2.2 rfl
theorem qJ (B:Nat->Nat)(a:cS)(A:dN):AV.denL B (fK a A)=eZ a A:=rfl
def actsR:Nat->RS->List cS × RS
 | 0,t=>([],t)
 | n+1,t=>if t.2=true then ([],t) else ((jH t).1::(actsR n (jH t).2).1,(actsR n (jH t).2).2)
theorem yL (n:Nat){t:RS}(h:t.2=true):actsR n t=([],t):=by
 cases n with
 | zero=>rfl
 | succ n=>rw[actsR,if_pos h]
structure AI (n:Nat)(t0:RS) where
 j:Nat
 a:Option Addr
 c:Nat
 L:List (cS × dN)
 t:RS
 x:Nat->Value
 hj:j<=n
 hL:L.length=j
 inv:(L.map (·.1)++(actsR (n-j) t).1,(actsR (n-j) t).2)=actsR n t0
def AI.zero (n:Nat)(t0:RS)(x:Nat->Value):AI n t0:=⟨0,none,0,[],t0,x,Nat.zero_le _,rfl,rfl⟩
def AI.next {n:Nat}{t0:RS}(i:AI n t0)(h:i.j<n)(hb:i.t.2=false)(a1:cS)(t1:RS)(har:(a1,t1)=jH i.t)(A:dN)(a:Option Addr)(c:Nat)(x:Nat->Value):AI n t0:=⟨i.j+1,a,c,i.L ++ [(a1,A)],t1,x,h,by rw[List.length_append,i.hL];rfl,by
 have:=i.inv;rw[show n-i.j=(n-(i.j+1))+1 by omega,actsR,if_neg (by rw[hb];decide),<- har]at this;rw[<- this];simp⟩
def AIF (b rb:Nat)(w:World)(e:TypeId){n:Nat}{t0:RS}(i:AI n t0)(v:World)(L:Bx):Prop:=FrD b rb w (fun u=>(∀p ∈ i.L,cL u p.1 p.2)/\True) (Rz b rb i.t) e 19 (.slice i.a i.j i.c) (i.L.map fun p=>eZ p.1 p.2) v L
theorem AIF.zero {b rb:Nat}{w v:World}{e:TypeId}{n:Nat}{t0:RS}{L:Bx}(F:FrD b rb w (fun _=>True) (Rz b rb t0) e 19 (.slice none 0 0) [] v L)(x:Nat->Value):AIF b rb w e (AI.zero n t0 x) v L:=F.imp fun _ _=>⟨fun _ hp=>absurd hp List.not_mem_nil,trivial⟩
theorem AIF.next {b rb:Nat}{w v:World}{e:TypeId}{n:Nat}{t0:RS}{L:Bx}{i:AI n t0}{a1:cS}{t1:RS}{A:dN}{a:Option Addr}{c:Nat}(h:i.j<n)(hb:i.t.2=false)(har:(a1,t1)=jH i.t)
  (F:FrD b rb w (fun u=>cL u a1 A/\(∀p ∈ i.L,cL u p.1 p.2)/\True) (Rz b rb t1) e 19 (.slice a (i.j+1) c) ((i.L.map fun p=>eZ p.1 p.2) ++ [AV.denL (fun _=>0) (fK a1 A)]) v L) (x:Nat->Value):AIF b rb w e (i.next h hb a1 t1 har A a c x) v L:=by
 unfold AIF AI.next;simp only[List.map_append,List.map_cons,List.map_nil];rw[qJ]at F;exact F.imp fun u h=>⟨fun p hp=>by
  rcases List.mem_append.1 hp with hp|hp
  ·exact h.2.1 p hp
  ·obtain rfl:=List.mem_singleton.1 hp;exact h.1,trivial⟩
theorem AI.last {n:Nat}{t0:RS}(i:AI n t0)(h:i.j=n\/i.t.2=true):i.L.map (·.1)=(actsR n t0).1/\i.t=(actsR n t0).2:=by
 have:=i.inv;rcases h with h|h
 ·rw[h,Nat.sub_self,actsR,List.append_nil]at this;rw[<- this];exact⟨rfl,rfl⟩
 ·rw[yL _ h,List.append_nil]at this;rw[<- this];exact⟨rfl,rfl⟩
def cf1 (t:RS):RS:=nS 7 t
def cf2 (t:RS):RS:=nS 7 (cf1 t)
def cf3 (t:RS):RS:=nS 64 (cf2 t)
def cf4 (t:RS):RS:=nS 64 (cf3 t)
def cf5 (t:RS):RS:=nS 48 (cf4 t)
def cf6 (t:RS):RS:=nS 1048576 (cf5 t)
def cf7 (t:RS):RS:=nS 200 (cf6 t)
def cf8 (t:RS):RS:=iS (cf7 t)
def cf9 (t:RS):List cS × RS:=actsR (aB 4096 (cf8 t).1) (nS 4096 (cf8 t))
def fZ (t:RS):kN × RS:=(⟨⟨(aB 7 t.1:Nat),(aB 7 (cf1 t).1:Nat),(aB 64 (cf2 t).1:Nat),(aB 64 (cf3 t).1:Nat),(aB 48 (cf4 t).1:Nat),(aB 1048576 (cf5 t).1:Nat)⟩,(cf9 t).1,(aB 200 (cf6 t).1:Nat),gN (cf7 t).1⟩,(cf9 t).2)
def aAe:kN:=⟨⟨0,0,0,0,0,0⟩,[],0,0⟩
def wW (l:List Nat):kN × Bool:=if hP (fZ (l,false)).2.1 (fZ (l,false)).2.2=0/\jY (fZ (l,false)).1=true then ((fZ (l,false)).1,true) else (aAe,false)
instance (l:List Nat):Decidable (fF l):=inferInstanceAs (Decidable (_/\_))
def qF (f:List Nat):kN × Bool:=if fF f/\f.getD 1 0=6 then wW (aZ f) else (aAe,false)
theorem gY {l:List Nat}{r:kN × RS}(h:fZ (l,false)=r)(hb:¬(hP r.2.1 r.2.2=0/\jY r.1=true)):wW l=(aAe,false):=by subst h;rw[wW,if_neg hb]
theorem nV {l:List Nat}{r:kN × RS}(h:fZ (l,false)=r)(hb:hP r.2.1 r.2.2=0/\jY r.1=true):wW l=(r.1,true):=by subst h;rw[wW,if_pos hb]
def iZ (res:Bool->Value)(f:List Nat)(w:World):Ending->World->Prop:=fun e w'=>∃L a n c,e = .returned (.tuple #[.agg (tE (qF f).1 a n c).toArray,res (qF f).2])/\cZ w' (qF f).1 L a n c/\Below w.heap.size w w'
theorem cZ.zero (w:World):cZ w aAe [] none 0 0:=⟨bI.nil w,rfl⟩
theorem iZ.bad {res:Bool->Value}{f:List Nat}{w w':World}(h:qF f=(aAe,false))(hb:Below w.heap.size w w'):iZ res f w (.returned (.tuple #[.agg (tE aAe none 0 0).toArray,res false])) w':=by
 unfold iZ;rw[h];exact⟨[],none,0,0,rfl,cZ.zero w',hb⟩
theorem aAv:cE Tryz.prog 26 76 19 216:=by
 obtain⟨i0,hi,hz0,hz1,hz2⟩:=info_parts (show (Tryz.prog.info? 76).map (fun i=>(i.zero,i.size,i.bytes))=some (some (.agg (AV.denL (fun _=>0) aAu).toArray),19,216) by kernel_rfl);exact⟨Tryz.underlying26,⟨i0,_,hi,hz0,hz1,hz2,rfl⟩,by decide,by decide⟩
theorem rE:cE Tryz.prog 33 86 19 216:=by
 obtain⟨i0,hi,hz0,hz1,hz2⟩:=info_parts (show (Tryz.prog.info? 86).map (fun i=>(i.zero,i.size,i.bytes))=some (some (.agg (AV.denL (fun _=>0) aAu).toArray),19,216) by kernel_rfl);exact⟨Tryz.underlying33,⟨i0,_,hi,hz0,hz1,hz2,rfl⟩,by decide,by decide⟩
end Go.Proofs.YtgeihgombjbkbaaGreat
namespace Go.Proofs.YtgeihgombjbkbaaGreat
open Go.RowKit Go.Maps Go.Proofs.Own

def plSr:Nat->Option Pl
 | 6=>some ⟨[0,1,3,7,0,16,48,112,0,256,768,1792,0,4096,12288,28672,0,65536,196608,458752,0,1048576,3145728,7340032,0,16777216,67108863,134217727,0],0,[.h [0,1,2,3,4,5,6,7,8,9,10,11,12,13,14,15,16,17,18,19,20,21,22,23,24,25,28],.o 26,.h [27]],[]⟩
 | 9=>some ⟨[0,1,0,0,8,28,60,127,255],96,[.h [0,1,2,3,4],.o 5,.h [6,7],.o 8],[]⟩
 | 15=>some ⟨[0,1,0,4,12,31,63,127],8,[.h [0,1,2],.o 3,.o 4,.o 5,.h [6],.o 7],[]⟩
 | _=>none
def seven:List AV:=[.p 0 0,.i .u64 (.l 7),.p 0 1,.i .u64 (.l 7),.p 0 2,.i .u64 (.l 64),.p 0 3,.i .u64 (.l 64),.p 0 4,.i .u64 (.l 48),.p 0 5,.i .u64 (.l 1048576),.p 0 7,.i .u64 (.l 200)]
def srL (b N j:Nat):List (Nat × AV):=[(2,.p 0 0),(7,.pa (fun _=>⟨b,0,none⟩)),(72,.i .u64 (.x fun _=>(N:Nat))),(73,.i .u64 (.x fun _=>(j:Int)))]
def aI3 (x1 x2 x3 x4 x5 x6:Nat)(a:AV)(x7:Nat)(x8:Int):List AV:=[.i .i64 (.x fun _=>(x1:Int)),.i .i64 (.x fun _=>(x2:Int)),.i .i64 (.x fun _=>(x3:Int)),.i .i64 (.x fun _=>(x4:Int)),.i .i64 (.x fun _=>(x5:Int)),.i .i64 (.x fun _=>(x6:Int)),a,.i .i64 (.x fun _=>(x7:Int)),.i .i64 (.x fun _=>x8)]
def aMa (b:Bool):Value:=.int .i64 (if b then 0 else 20)
theorem nE {f:List Nat}{a:Option Addr}{c:Nat}{w:World}(hB:Bytes w (.slice a f.length c) f):Calls Tryz.prog 7 #[.slice a f.length c] w (iZ aMa f w):=by
 have F0:Own.Fn (fun _=>False) w w [] (fun u=>Bytes u (.slice a f.length c) f):=⟨Fr.zero w nofun fun v kv=>hB.below (kv.below (Nat.le_refl _) nofun),nofun⟩;refine enter (F:=fun w' L=>Own.Fn (fun _=>False) w w' L (fun u=>Bytes u (.slice a f.length c) f)) (fun _=>0) [.sl (fun _=>a) (fun _=>f.length) (fun _=>c)] [] Tryz.func7 rfl rfl F0 94 rfl ?_;refine ga env (Fn.frm _ _ _) plSr ?_;refine bJI ?_;refine ga (aG env) (Fn.frm _ _ _) plSr ?_;intro B v F;refine(aAn _ f v F.saf.now).mono ?_;rintro e w2 ⟨hb,h1,h2⟩;by_cases hW:fF f
 case neg =>
  obtain rfl:=h1 hW;refine⟨.t [.i .u8 (.l 0),.v (.slice none 0 0),.b (.l false)],_,rfl,(Fn.frm _ _ _).b,F.call hb,?_⟩;clear F hb h1 h2;refine ga (aG env) (Fn.frm _ _ _) plSr ?_;refine mY env (Fn.frm _ _ _) ?_;intro B v F;exact iZ.bad (res:=aMa) (if_neg fun h=>hW h.1) F.bel
 obtain⟨v',rfl,hB2⟩:=h2 hW;clear h1 h2;obtain⟨a2,c2,rfl,_⟩:=hB2.shape;obtain⟨r0,_,hr0,_⟩:=hB.blk (fun e=>by have:=hW.2;rw[e]at this;cases this);obtain⟨rb1,hv1,_,hne1⟩:=nT (F.call hb) hB2 hr0;refine⟨.t [.i .u8 (.x fun _=>(f.getD 1 0:Nat)),.sl (fun _=>a2) (fun _=>(aZ f).length) (fun _=>c2),.b (.l true)],(fun w' L=>Own.Fn (fun _=>False) w w' L (fun u=>Bytes u (.slice a2 (aZ f).length c2) (aZ f)/\Bytes u (.slice a f.length c) f)),rfl,(Fn.frm _ _ _).b,F.next hb (fun u ku=>hB2.oR ku hv1 fun h=>h.elim id fun h=>?_),?_⟩
 ·obtain⟨p,hp,e⟩:=List.mem_map.1 h;exact hne1 p hp e
 clear F hb hB2 hv1 hne1;refine ga (aG env) (Fn.frm _ _ _) plSr ?_;refine⟨fun q=>?_,fun q=>?_⟩
 ·have hk:f.getD 1 0≠6:=fun e=>by
   have q:(((f.getD 1 0:Nat):Int) != 6)=true:=q;rw[e]at q;cases q
  refine ga (aG env) (Fn.frm _ _ _) plSr ?_;refine mY env (Fn.frm _ _ _) ?_;intro B v F;exact iZ.bad (res:=aMa) (if_neg fun h=>hk h.2) F.bel
 have hk:f.getD 1 0=6:=by
  have q:(((f.getD 1 0:Nat):Int) != 6)=false:=q;have q:((f.getD 1 0:Nat):Int)=6:=by simpa using q
  omega
 clear q;have hF:qF f=wW (aZ f):=if_pos ⟨hW,hk⟩;unfold iZ;rw[hF];clear hF hk hW;generalize aZ f=l;refine ga (aG env) (Fn.frm _ _ _) plSr ?_;intro B v F;obtain⟨rb,hv,hrl,hne⟩:=nT F F.saf.now.1 hr0;refine(rD (rb:=rb) _ l v F.saf.now.1 hv (by omega)).mono ?_;rintro e w2 ⟨rfl,hz,hb⟩;have hwb:w.heap.size<=v.heap.size:=F.bel.size;refine⟨.pa (fun _=>⟨v.heap.size,0,none⟩),_,rfl,fd.b,aLW F.toFr hb 76 19 (Nat.le_refl _) hz.lt (Nat.lt_of_lt_of_le hrl hb.size) hne (dT (t:=(l,false)) hz),?_⟩;clear F hz hb F0 hv hne hrl hr0 hB;generalize v.heap.size=b at hwb ⊢;clear v w2;refine ga (aG env) fd plSr ?_;obtain⟨i0,hi0,hz0,hz1,_⟩:=info_parts (show (Tryz.prog.info? 62).map (fun i=>(i.zero,i.size,i.bytes))=some (some (.agg #[.pointer none,.int .u64 0]),2,16) by kernel_rfl);refine aKZ seven ?_ hi0 hz0 hz1 Tryz.underlying63;intro b0 bb;refine ga (aG env) (Hd.frm fd) plSr ?_;refine aIb 54 (.i .i64 (.l 7)) ?_;refine ga (aG env) (Hd.frm fd) plSr ?_;refine aJk 8 fun J0 hJ0=>?_;refine ga (aG env) (Hd.frm fd) plSr ?_;refine bH (.pa fun _=>⟨bb,0+0*2,none⟩) (fun B v F=>dI (i:=0) (e:=62) (n:=2) rfl Tryz.underlying63 (by kernel_rfl) (by rw[St.aC];rfl) (by rw[St.aC];rfl) (by decide)) ?_;refine ga (aG env) (Hd.frm fd) plSr ?_;refine bH (.g [.p 0 0,.i .u64 (.l 7)]) (fun B v F=>by
  have hB:B 0=b0:=Option.some.inj F.2;subst hB;exact eL (cs:=[.pointer (some ⟨B 0,0,none⟩),.int .u64 7]) (b:=bb) (off:=0+0*2) rfl (by rw[St.aC];rfl) (fE F.1.now.1 (d:=0*2) rfl) Tryz.underlying62 rfl (by kernel_rfl)) ?_
 refine ga (aG env) (Hd.frm fd) plSr ?_;refine lK 7 _ rfl (by decide) ?_;refine gn 2 (aG env) (Hd.frm fd) plSr ?_;refine fW 65 (.i .i64 (.cv .i64 (.x fun _=>(aB 7 (l,false).1:Nat)))) (.i .i64 (.x fun _=>(aB 7 (l,false).1:Nat))) (fun B=>congrArg (Value.int .i64) (cT (aD 7 _) (by decide))) ?_;refine ga (aG env) (Hd.frm fd) plSr ?_;refine eI hJ0 fun J1 hJ1=>?_;refine ga (aG env) (Hd.frm fd) plSr ?_;refine bH (.pa fun _=>⟨bb,0+1*2,none⟩) (fun B v F=>dI (i:=1) (e:=62) (n:=2) rfl Tryz.underlying63 (by kernel_rfl) (by rw[St.aC];rfl) (by rw[St.aC];rfl) (by decide)) ?_;refine ga (aG env) (Hd.frm fd) plSr ?_;refine bH (.g [.p 0 1,.i .u64 (.l 7)]) (fun B v F=>by
  have hB:B 0=b0:=Option.some.inj F.2;subst hB;exact eL (cs:=[.pointer (some ⟨B 0,1,none⟩),.int .u64 7]) (b:=bb) (off:=0+1*2) rfl (by rw[St.aC];rfl) (fE F.1.now.1 (d:=1*2) rfl) Tryz.underlying62 rfl (by kernel_rfl)) ?_
 refine ga (aG env) (Hd.frm fd) plSr ?_;refine lK 7 _ rfl (by decide) ?_;refine gn 2 (aG env) (Hd.frm fd) plSr ?_;refine fW 65 (.i .i64 (.cv .i64 (.x fun _=>(aB 7 (nS 7 (l,false)).1:Nat)))) (.i .i64 (.x fun _=>(aB 7 (nS 7 (l,false)).1:Nat))) (fun B=>congrArg (Value.int .i64) (cT (aD 7 _) (by decide))) ?_;refine ga (aG env) (Hd.frm fd) plSr ?_;refine eI hJ1 fun J2 hJ2=>?_;refine ga (aG env) (Hd.frm fd) plSr ?_;refine bH (.pa fun _=>⟨bb,0+2*2,none⟩) (fun B v F=>dI (i:=2) (e:=62) (n:=2) rfl Tryz.underlying63 (by kernel_rfl) (by rw[St.aC];rfl) (by rw[St.aC];rfl) (by decide)) ?_;refine ga (aG env) (Hd.frm fd) plSr ?_;refine bH (.g [.p 0 2,.i .u64 (.l 64)]) (fun B v F=>by
  have hB:B 0=b0:=Option.some.inj F.2;subst hB;exact eL (cs:=[.pointer (some ⟨B 0,2,none⟩),.int .u64 64]) (b:=bb) (off:=0+2*2) rfl (by rw[St.aC];rfl) (fE F.1.now.1 (d:=2*2) rfl) Tryz.underlying62 rfl (by kernel_rfl)) ?_
 refine ga (aG env) (Hd.frm fd) plSr ?_;refine lK 64 _ rfl (by decide) ?_;refine gn 2 (aG env) (Hd.frm fd) plSr ?_;refine fW 65 (.i .i64 (.cv .i64 (.x fun _=>(aB 64 (nS 7 (nS 7 (l,false))).1:Nat)))) (.i .i64 (.x fun _=>(aB 64 (nS 7 (nS 7 (l,false))).1:Nat))) (fun B=>congrArg (Value.int .i64) (cT (aD 64 _) (by decide))) ?_;refine ga (aG env) (Hd.frm fd) plSr ?_;refine eI hJ2 fun J3 hJ3=>?_;refine ga (aG env) (Hd.frm fd) plSr ?_;refine bH (.pa fun _=>⟨bb,0+3*2,none⟩) (fun B v F=>dI (i:=3) (e:=62) (n:=2) rfl Tryz.underlying63 (by kernel_rfl) (by rw[St.aC];rfl) (by rw[St.aC];rfl) (by decide)) ?_;refine ga (aG env) (Hd.frm fd) plSr ?_;refine bH (.g [.p 0 3,.i .u64 (.l 64)]) (fun B v F=>by
  have hB:B 0=b0:=Option.some.inj F.2;subst hB;exact eL (cs:=[.pointer (some ⟨B 0,3,none⟩),.int .u64 64]) (b:=bb) (off:=0+3*2) rfl (by rw[St.aC];rfl) (fE F.1.now.1 (d:=3*2) rfl) Tryz.underlying62 rfl (by kernel_rfl)) ?_
 refine ga (aG env) (Hd.frm fd) plSr ?_;refine lK 64 _ rfl (by decide) ?_;refine gn 2 (aG env) (Hd.frm fd) plSr ?_;refine fW 65 (.i .i64 (.cv .i64 (.x fun _=>(aB 64 (nS 64 (nS 7 (nS 7 (l,false)))).1:Nat)))) (.i .i64 (.x fun _=>(aB 64 (nS 64 (nS 7 (nS 7 (l,false)))).1:Nat))) (fun B=>congrArg (Value.int .i64) (cT (aD 64 _) (by decide))) ?_;refine ga (aG env) (Hd.frm fd) plSr ?_;refine eI hJ3 fun J4 hJ4=>?_;refine ga (aG env) (Hd.frm fd) plSr ?_;refine bH (.pa fun _=>⟨bb,0+4*2,none⟩) (fun B v F=>dI (i:=4) (e:=62) (n:=2) rfl Tryz.underlying63 (by kernel_rfl) (by rw[St.aC];rfl) (by rw[St.aC];rfl) (by decide)) ?_;refine ga (aG env) (Hd.frm fd) plSr ?_;refine bH (.g [.p 0 4,.i .u64 (.l 48)]) (fun B v F=>by
  have hB:B 0=b0:=Option.some.inj F.2;subst hB;exact eL (cs:=[.pointer (some ⟨B 0,4,none⟩),.int .u64 48]) (b:=bb) (off:=0+4*2) rfl (by rw[St.aC];rfl) (fE F.1.now.1 (d:=4*2) rfl) Tryz.underlying62 rfl (by kernel_rfl)) ?_
 refine ga (aG env) (Hd.frm fd) plSr ?_;refine lK 48 _ rfl (by decide) ?_;refine gn 2 (aG env) (Hd.frm fd) plSr ?_;refine fW 65 (.i .i64 (.cv .i64 (.x fun _=>(aB 48 (nS 64 (nS 64 (nS 7 (nS 7 (l,false))))).1:Nat)))) (.i .i64 (.x fun _=>(aB 48 (nS 64 (nS 64 (nS 7 (nS 7 (l,false))))).1:Nat))) (fun B=>congrArg (Value.int .i64) (cT (aD 48 _) (by decide))) ?_;refine ga (aG env) (Hd.frm fd) plSr ?_;refine eI hJ4 fun J5 hJ5=>?_;refine ga (aG env) (Hd.frm fd) plSr ?_;refine bH (.pa fun _=>⟨bb,0+5*2,none⟩) (fun B v F=>dI (i:=5) (e:=62) (n:=2) rfl Tryz.underlying63 (by kernel_rfl) (by rw[St.aC];rfl) (by rw[St.aC];rfl) (by decide)) ?_;refine ga (aG env) (Hd.frm fd) plSr ?_;refine bH (.g [.p 0 5,.i .u64 (.l 1048576)]) (fun B v F=>by
  have hB:B 0=b0:=Option.some.inj F.2;subst hB;exact eL (cs:=[.pointer (some ⟨B 0,5,none⟩),.int .u64 1048576]) (b:=bb) (off:=0+5*2) rfl (by rw[St.aC];rfl) (fE F.1.now.1 (d:=5*2) rfl) Tryz.underlying62 rfl (by kernel_rfl)) ?_
 refine ga (aG env) (Hd.frm fd) plSr ?_;refine lK 1048576 _ rfl (by decide) ?_;refine gn 2 (aG env) (Hd.frm fd) plSr ?_;refine fW 65 (.i .i64 (.cv .i64 (.x fun _=>(aB 1048576 (nS 48 (nS 64 (nS 64 (nS 7 (nS 7 (l,false)))))).1:Nat)))) (.i .i64 (.x fun _=>(aB 1048576 (nS 48 (nS 64 (nS 64 (nS 7 (nS 7 (l,false)))))).1:Nat))) (fun B=>congrArg (Value.int .i64) (cT (aD 1048576 _) (by decide))) ?_;refine ga (aG env) (Hd.frm fd) plSr ?_;refine eI hJ5 fun J6 hJ6=>?_;refine ga (aG env) (Hd.frm fd) plSr ?_;refine bH (.pa fun _=>⟨bb,0+6*2,none⟩) (fun B v F=>dI (i:=6) (e:=62) (n:=2) rfl Tryz.underlying63 (by kernel_rfl) (by rw[St.aC];rfl) (by rw[St.aC];rfl) (by decide)) ?_;refine ga (aG env) (Hd.frm fd) plSr ?_;refine bH (.g [.p 0 7,.i .u64 (.l 200)]) (fun B v F=>by
  have hB:B 0=b0:=Option.some.inj F.2;subst hB;exact eL (cs:=[.pointer (some ⟨B 0,7,none⟩),.int .u64 200]) (b:=bb) (off:=0+6*2) rfl (by rw[St.aC];rfl) (fE F.1.now.1 (d:=6*2) rfl) Tryz.underlying62 rfl (by kernel_rfl)) ?_
 refine ga (aG env) (Hd.frm fd) plSr ?_;refine lK 200 _ rfl (by decide) ?_;refine gn 2 (aG env) (Hd.frm fd) plSr ?_;refine fW 65 (.i .i64 (.cv .i64 (.x fun _=>(aB 200 (nS 1048576 (nS 48 (nS 64 (nS 64 (nS 7 (nS 7 (l,false))))))).1:Nat)))) (.i .i64 (.x fun _=>(aB 200 (nS 1048576 (nS 48 (nS 64 (nS 64 (nS 7 (nS 7 (l,false))))))).1:Nat))) (fun B=>congrArg (Value.int .i64) (cT (aD 200 _) (by decide))) ?_;refine ga (aG env) (Hd.frm fd) plSr ?_;refine eI hJ6 fun J7 hJ7=>?_;clear hJ0 hJ1 hJ2 hJ3 hJ4 hJ5 hJ6 hJ7;have hS:fZ (l,false)=fZ (l,false):=rfl
 conv at hS=>rhs;unfold fZ cf9 cf8 cf7 cf6 cf5 cf4 cf3 cf2 cf1
 generalize aB 200 (nS 1048576 (nS 48 (nS 64 (nS 64 (nS 7 (nS 7 (l,false))))))).1=x7 at hS ⊢;generalize aB 1048576 (nS 48 (nS 64 (nS 64 (nS 7 (nS 7 (l,false)))))).1=x6 at hS ⊢;generalize aB 48 (nS 64 (nS 64 (nS 7 (nS 7 (l,false))))).1=x5 at hS ⊢;generalize aB 64 (nS 64 (nS 7 (nS 7 (l,false)))).1=x4 at hS ⊢;generalize aB 64 (nS 7 (nS 7 (l,false))).1=x3 at hS ⊢;generalize aB 7 (nS 7 (l,false)).1=x2 at hS ⊢;generalize aB 7 (l,false).1=x1 at hS ⊢;generalize (nS 200 (nS 1048576 (nS 48 (nS 64 (nS 64 (nS 7 (nS 7 (l,false))))))))=t7 at hS ⊢;refine bJC (bx:=[aI3 x1 x2 x3 x4 x5 x6 (.v (.slice none 0 0)) x7 0]) (FrD b rb w (fun _=>True) (Rz b rb t7) 76 19 (.slice none 0 0) []) (fun B w2 H=>(FrD.less (L:=[(B 0,_)]) H.1).imp fun _ _=>trivial) ?_;refine ga (aG env) fd plSr ?_;refine xU ?_;refine ga (aG env) fd plSr ?_;refine dF 4096 _ rfl (by decide) ?_;refine ga (aG env) fd plSr ?_;have hN:aB 4096 (iS t7).1<=4096:=aD _ _;generalize hA:actsR (aB 4096 (iS t7).1) (nS 4096 (iS t7))=as0 at hS;generalize aB 4096 (iS t7).1=N at hN hA ⊢;generalize nS 4096 (iS t7)=t9 at hA ⊢;generalize gN t7.1=x8 at hS ⊢;refine nO (AIF b rb w 76) AI.x (fun i:AI N t9=>srL b N i.j) (fun i=>[aI3 x1 x2 x3 x4 x5 x6 (.sl (fun _=>i.a) (fun _=>i.j) (fun _=>i.c)) x7 x8]) (fun i=>N-i.j) 95 (AI.zero N t9) (fun _=>rfl) (fun B x=>⟨rfl,rfl,rfl,rfl,trivial⟩) (fun B w1 F x=>AIF.zero F x) ?_;intro i J hJ;unfold AIF;refine ga (aG env) fd plSr ?_;refine⟨fun q=>?_,fun q=>?_⟩
 ·have hlt:i.j<N:=by simpa [BE.den,cmpB,IE.den] using q
  clear q;refine ga (aG env) fd plSr ?_;refine aID ?_;refine ga (aG env) fd plSr ?_;refine⟨fun q=>?_,fun q=>?_⟩
  ·have hl:=i.last (.inr (by simpa [BE.den] using q));clear q hlt;have hS2:fZ (l,false)=(⟨⟨x1,x2,x3,x4,x5,x6⟩,i.L.map (·.1),x7,x8⟩,i.t):=by rw[hS,<- hA,hl.1,hl.2]
   have hj2:=i.hL;have hj3:=i.hj;clear hS hl hA hJ;generalize i.a=a0;generalize i.c=c0;generalize i.t=t8 at hS2 ⊢;generalize i.L=L0 at hS2 hj2 ⊢;generalize i.j=n0 at hj2 hj3 ⊢;refine ga (aG env) fd plSr ?_;intro B w5 F;refine(eU b _ _ w5 F.z).mono ?_;rintro e w6 ⟨rfl,rfl⟩;rcases cV t8.1 t8.2 with hE|hE
   case inr =>
    rw[gY hS2 fun h=>by have h:=h.1;simp only at h;omega];refine⟨.i .i64 (.l 20),_,by rw[hE];rfl,fd.b,F,?_⟩;clear F;refine ga (aG env) fd plSr ?_;refine mY env fd ?_;intro B v F;exact⟨[],none,0,0,rfl,cZ.zero v,F.kept.below (Nat.le_refl _) fun k hk=>hk ▸ hwb⟩
   refine⟨.i .i64 (.l 0),_,by rw[hE];rfl,fd.b,F,?_⟩;clear F;refine ga (aG env) fd plSr ?_;intro B v F;have hI:∀u,dC u w.heap.size 76 19 (.slice a0 n0 c0) (L0.map fun p=>eZ p.1 p.2)->(∀p ∈ L0,cL u p.1 p.2)->cZ u ⟨⟨x1,x2,x3,x4,x5,x6⟩,L0.map (·.1),x7,x8⟩ L0 a0 n0 c0:=fun u h1 h2=>⟨⟨aU.cX h1,hj2,by omega,h2⟩,rfl⟩
   refine(uY ⟨⟨x1,x2,x3,x4,x5,x6⟩,L0.map (·.1),x7,x8⟩ L0 a0 n0 c0 v (hI v F.own F.now.1)).mono ?_
   rintro e w7 ⟨rfl,hb⟩;cases hok:jY ⟨⟨x1,x2,x3,x4,x5,x6⟩,L0.map (·.1),x7,x8⟩ with
   | false =>
    rw[gY hS2 fun h=>by have h:=h.2;simp only at h;rw[hok]at h;cases h];refine⟨.b (.l false),_,rfl,fd.b,F.call hb,?_⟩;clear F hb;refine ga (aG env) fd plSr ?_;refine mY env fd ?_;intro B v F;exact⟨[],none,0,0,rfl,cZ.zero v,F.kept.below (Nat.le_refl _) fun k hk=>hk ▸ hwb⟩
   | true =>
    rw[nV hS2 ⟨hE,hok⟩];refine⟨.b (.l true),_,rfl,fd.b,F.call hb,?_⟩;clear F hb;refine ga (aG env) fd plSr ?_;refine mY env fd ?_;intro B v F;exact⟨L0,a0,n0,c0,rfl,hI v F.own F.now.1,F.kept.below (Nat.le_refl _) fun k hk=>hk ▸ hwb⟩
  have hbd:i.t.2=false:=by simpa [BE.den] using q
  clear q;refine ga (aG env) fd plSr ?_;intro B v F;refine(aIF F.z F.lt.2).mono ?_;rintro e w4 ⟨A,rfl,hs,hz,hk⟩;obtain⟨ar,har⟩:∃ar,ar=jH i.t:=⟨_,rfl⟩;rw[<- har]at hs hz ⊢;refine⟨.g (fK ar.1 A),_,rfl,fd.b,F.rdR hk (dT (t:=ar.2) hz) hs,?_⟩;clear F hs hz hk;obtain⟨a1,t1⟩:=ar;simp only;refine ga (aG env) fd plSr ?_;have hlen:(i.L.map fun p=>eZ p.1 p.2).length=i.j:=by rw[List.length_map,i.hL]
  refine jI aAv hlen (Nat.le_trans (Nat.le_of_lt hlt) (Nat.le_trans hN (by decide))) ?_;intro a' g c';refine ga (aG env) fd plSr ?_;refine sG hJ (i.next hlt hbd a1 t1 har A a' c') (fun _=>rfl) (fun _=>(by omega:N-(i.j+1)<N-i.j)) (fun B x=>⟨rfl,rfl,rfl,?_,trivial⟩) (fun B v F x=>AIF.next hlt hbd har F x);simp only[AV.den,IE.den,getT];show Value.int .u64 ((i.j+1:Nat):Int)=_;rw[show ((i.j:Nat):Int)+1=((i.j+1:Nat):Int) from rfl,wrU (by omega)]
 have hl:=i.last (.inl (by
  have:¬i.j<N:=by simpa [BE.den,cmpB,IE.den] using q
  have:=i.hj;omega))
 clear q;have hS2:fZ (l,false)=(⟨⟨x1,x2,x3,x4,x5,x6⟩,i.L.map (·.1),x7,x8⟩,i.t):=by rw[hS,<- hA,hl.1,hl.2]
 have hj2:=i.hL;have hj3:=i.hj;clear hS hl hA hJ;generalize i.a=a0;generalize i.c=c0;generalize i.t=t8 at hS2 ⊢;generalize i.L=L0 at hS2 hj2 ⊢;generalize i.j=n0 at hj2 hj3 ⊢;refine ga (aG env) fd plSr ?_;intro B w5 F;refine(eU b _ _ w5 F.z).mono ?_;rintro e w6 ⟨rfl,rfl⟩;rcases cV t8.1 t8.2 with hE|hE
 case inr =>
  rw[gY hS2 fun h=>by have h:=h.1;simp only at h;omega];refine⟨.i .i64 (.l 20),_,by rw[hE];rfl,fd.b,F,?_⟩;clear F;refine ga (aG env) fd plSr ?_;refine mY env fd ?_;intro B v F;exact⟨[],none,0,0,rfl,cZ.zero v,F.kept.below (Nat.le_refl _) fun k hk=>hk ▸ hwb⟩
 refine⟨.i .i64 (.l 0),_,by rw[hE];rfl,fd.b,F,?_⟩;clear F;refine ga (aG env) fd plSr ?_;intro B v F;have hI:∀u,dC u w.heap.size 76 19 (.slice a0 n0 c0) (L0.map fun p=>eZ p.1 p.2)->(∀p ∈ L0,cL u p.1 p.2)->cZ u ⟨⟨x1,x2,x3,x4,x5,x6⟩,L0.map (·.1),x7,x8⟩ L0 a0 n0 c0:=fun u h1 h2=>⟨⟨aU.cX h1,hj2,by omega,h2⟩,rfl⟩
 refine(uY ⟨⟨x1,x2,x3,x4,x5,x6⟩,L0.map (·.1),x7,x8⟩ L0 a0 n0 c0 v (hI v F.own F.now.1)).mono ?_
 rintro e w7 ⟨rfl,hb⟩;cases hok:jY ⟨⟨x1,x2,x3,x4,x5,x6⟩,L0.map (·.1),x7,x8⟩ with
 | false =>
  rw[gY hS2 fun h=>by have h:=h.2;simp only at h;rw[hok]at h;cases h];refine⟨.b (.l false),_,rfl,fd.b,F.call hb,?_⟩;clear F hb;refine ga (aG env) fd plSr ?_;refine mY env fd ?_;intro B v F;exact⟨[],none,0,0,rfl,cZ.zero v,F.kept.below (Nat.le_refl _) fun k hk=>hk ▸ hwb⟩
 | true =>
  rw[nV hS2 ⟨hE,hok⟩];refine⟨.b (.l true),_,rfl,fd.b,F.call hb,?_⟩;clear F hb;refine ga (aG env) fd plSr ?_;refine mY env fd ?_;intro B v F;exact⟨L0,a0,n0,c0,rfl,hI v F.own F.now.1,F.kept.below (Nat.le_refl _) fun k hk=>hk ▸ hwb⟩

def plSq:Nat->Option Pl
 | 17=>some ⟨[0,1,0,4,12,31,63,127],8,[.h [0,1,2],.o 3,.o 4,.o 5,.h [6],.o 7],[]⟩
 | _=>none
def sqL (b m:Nat):List (Nat × AV):=[(2,.p 0 0),(4,.p 1 0),(9,.pa (fun _=>⟨b,0,none⟩)),(10,.i .u64 (.x fun _=>(m:Int)))]
def aKP:List AV:=[.i .i64 (.l 0),.i .i64 (.l 0),.i .i64 (.l 0),.i .i64 (.l 0),.i .i64 (.l 0),.i .i64 (.l 0),.v (.slice none 0 0),.i .i64 (.l 0),.i .i64 (.l 0)]
theorem vJ {f:List Nat}{a:Option Addr}{c:Nat}{w:World}(hB:Bytes w (.slice a f.length c) f):Calls Tryz.prog 8 #[.slice a f.length c] w (iZ .bool f w):=by
 have F0:Own.Fn (fun _=>False) w w [] (fun u=>Bytes u (.slice a f.length c) f):=⟨Fr.zero w nofun fun v kv=>hB.below (kv.below (Nat.le_refl _) nofun),nofun⟩;refine enter (F:=fun w' L=>Own.Fn (fun _=>False) w w' L (fun u=>Bytes u (.slice a f.length c) f)) (fun _=>0) [.sl (fun _=>a) (fun _=>f.length) (fun _=>c)] [] Tryz.func8 rfl rfl F0 100 rfl ?_;refine ga env (Fn.frm _ _ _) plSq ?_;intro B v F;refine(zZ _ f v F.saf.now).mono ?_;rintro e w2 ⟨hb,h1,h2⟩;by_cases hT:dA f=0
 case neg =>
  obtain rfl:=h1 hT;refine⟨.t [.i .u8 (.l 0),.v (.slice none 0 0),.i .i64 (.l 0),.i .i64 (.x fun _=>(dA f:Int))],_,rfl,(Fn.frm _ _ _).b,F.call hb,?_⟩;clear F hb h1 h2;refine ga env (Fn.frm _ _ _) plSq ?_;refine aH 20 true (e:=.cmp .neq (.x fun _=>(dA f:Int)) (.l 0)) (by show ((dA f:Int) != 0)=true;simpa using hT) ?_;refine ga env (Fn.frm _ _ _) plSq ?_;refine fa env (Fn.frm _ _ _) ?_;intro B v F;exact iZ.bad (res:=.bool) (if_neg fun h=>hT h.1.1) F.bel
 obtain⟨v',rfl,hB2⟩:=h2 hT;clear h1 h2;obtain⟨a2,c2,rfl,_⟩:=hB2.shape;have hB3:=hB2;obtain⟨rb1,hv1,hne1⟩:∃rb,(aZ f = []\/(Value.slice a2 (aZ f).length c2).ownBlock=some rb) /\ ∀p ∈ mkB B 0 _,p.1≠rb:=by
  by_cases hl0:f = []
  ·subst hl0;exact absurd hT (by decide)
  ·obtain⟨r0,_,hr0,_⟩:=hB.blk hl0;obtain⟨rb,g1,_,g3⟩:=nT (F.call hb) hB2 hr0;exact⟨rb,g1,g3⟩
 refine⟨.t [.i .u8 (.x fun _=>(f.getD 1 0:Nat)),.sl (fun _=>a2) (fun _=>(aZ f).length) (fun _=>c2),.i .i64 (.x fun _=>(frN f+8:Nat)),.i .i64 (.l 0)],(fun w' L=>Own.Fn (fun _=>False) w w' L (fun u=>Bytes u (.slice a2 (aZ f).length c2) (aZ f)/\Bytes u (.slice a f.length c) f)),rfl,(Fn.frm _ _ _).b,F.next hb (fun u ku=>hB2.oR ku hv1 fun h=>h.elim id fun h=>?_),?_⟩
 ·obtain⟨p,hp,e⟩:=List.mem_map.1 h;exact hne1 p hp e
 clear F hb hB2 hB3 hv1 hne1;refine ga env (Fn.frm _ _ _) plSq ?_;by_cases hk:f.getD 1 0=6
 case neg =>
  refine aH 24 true (e:=.cmp .neq (.x fun _=>(f.getD 1 0:Nat)) (.l 6)) (by show (((f.getD 1 0:Nat):Int) != 6)=true;simp only[bne_iff_ne];omega) ?_;refine ga env (Fn.frm _ _ _) plSq ?_;refine fa env (Fn.frm _ _ _) ?_;intro B v F;exact iZ.bad (res:=.bool) (if_neg fun h=>hk h.2) F.bel
 refine aH 24 false (e:=.cmp .neq (.x fun _=>(f.getD 1 0:Nat)) (.l 6)) (by show (((f.getD 1 0:Nat):Int) != 6)=false;rw[hk];rfl) ?_;refine ga env (Fn.frm _ _ _) plSq ?_;refine⟨fun q=>?_,fun q=>?_⟩
 ·have hn:frN f+8≠f.length:=fun e=>by
   have q:(((frN f+8:Nat):Int) != (f.length:Int))=true:=q;rw[e,bne_self_eq_false]at q;cases q
  refine ga env (Fn.frm _ _ _) plSq ?_;refine fa env (Fn.frm _ _ _) ?_;intro B v F;exact iZ.bad (res:=.bool) (if_neg fun h=>hn h.1.2) F.bel
 have hW:fF f:=⟨hT,by
  have q:(((frN f+8:Nat):Int) != (f.length:Int))=false:=q;have q:((frN f+8:Nat):Int)=(f.length:Int):=by simpa using q
  omega⟩
 clear q;obtain⟨r0,_,hr0,_⟩:=hB.blk (fun e=>by have:=hW.2;rw[e]at this;cases this);have hF:qF f=wW (aZ f):=if_pos ⟨hW,hk⟩;unfold iZ;rw[hF];clear hF hk hW hT;generalize aZ f=l;refine gn 8 env (Fn.frm _ _ _) plSq ?_;refine aIR 2 fun B v F=>?_;obtain⟨rb,hv,hrl,hne⟩:=nT F F.saf.now.1 hr0;have hwb:w.heap.size<=B 2:=(F.rng (B 2,_) (List.mem_cons_of_mem _ (List.mem_cons_of_mem _ List.mem_cons_self))).1;refine⟨FrD (B 2) rb w (fun _=>True) (Rz (B 2) rb (l,false)) 86 19 (.slice none 0 0) [],aLS 86 19 (L:=[(B 0,_),(B 1,_)]) F F.saf.now.1 hv hrl hne,?_⟩;clear F F0 hv hne hrl hr0 hB;generalize B 2=b at hwb ⊢;clear v w2;refine ga env fd plSq ?_;refine bY 7 _ rfl (by decide) ?_;refine gn 1 env fd plSq ?_;refine fW 36 (.i .i64 (.cv .i64 (.x fun _=>(aB 7 (l,false).1:Nat)))) (.i .i64 (.x fun _=>(aB 7 (l,false).1:Nat))) (fun B=>congrArg (Value.int .i64) (cT (aD 7 _) (by decide))) ?_;refine ga env fd plSq ?_;refine bY 7 _ rfl (by decide) ?_;refine gn 1 env fd plSq ?_;refine fW 41 (.i .i64 (.cv .i64 (.x fun _=>(aB 7 (nS 7 (l,false)).1:Nat)))) (.i .i64 (.x fun _=>(aB 7 (nS 7 (l,false)).1:Nat))) (fun B=>congrArg (Value.int .i64) (cT (aD 7 _) (by decide))) ?_;refine ga env fd plSq ?_;refine bY 64 _ rfl (by decide) ?_;refine gn 1 env fd plSq ?_;refine fW 46 (.i .i64 (.cv .i64 (.x fun _=>(aB 64 (nS 7 (nS 7 (l,false))).1:Nat)))) (.i .i64 (.x fun _=>(aB 64 (nS 7 (nS 7 (l,false))).1:Nat))) (fun B=>congrArg (Value.int .i64) (cT (aD 64 _) (by decide))) ?_;refine ga env fd plSq ?_;refine bY 64 _ rfl (by decide) ?_;refine gn 1 env fd plSq ?_;refine fW 51 (.i .i64 (.cv .i64 (.x fun _=>(aB 64 (nS 64 (nS 7 (nS 7 (l,false)))).1:Nat)))) (.i .i64 (.x fun _=>(aB 64 (nS 64 (nS 7 (nS 7 (l,false)))).1:Nat))) (fun B=>congrArg (Value.int .i64) (cT (aD 64 _) (by decide))) ?_;refine ga env fd plSq ?_;refine bY 48 _ rfl (by decide) ?_;refine gn 1 env fd plSq ?_;refine fW 56 (.i .i64 (.cv .i64 (.x fun _=>(aB 48 (nS 64 (nS 64 (nS 7 (nS 7 (l,false))))).1:Nat)))) (.i .i64 (.x fun _=>(aB 48 (nS 64 (nS 64 (nS 7 (nS 7 (l,false))))).1:Nat))) (fun B=>congrArg (Value.int .i64) (cT (aD 48 _) (by decide))) ?_;refine ga env fd plSq ?_;refine bY 1048576 _ rfl (by decide) ?_;refine gn 1 env fd plSq ?_;refine fW 61 (.i .i64 (.cv .i64 (.x fun _=>(aB 1048576 (nS 48 (nS 64 (nS 64 (nS 7 (nS 7 (l,false)))))).1:Nat)))) (.i .i64 (.x fun _=>(aB 1048576 (nS 48 (nS 64 (nS 64 (nS 7 (nS 7 (l,false)))))).1:Nat))) (fun B=>congrArg (Value.int .i64) (cT (aD 1048576 _) (by decide))) ?_;refine ga env fd plSq ?_;refine bY 200 _ rfl (by decide) ?_;refine gn 1 env fd plSq ?_;refine fW 66 (.i .i64 (.cv .i64 (.x fun _=>(aB 200 (nS 1048576 (nS 48 (nS 64 (nS 64 (nS 7 (nS 7 (l,false))))))).1:Nat)))) (.i .i64 (.x fun _=>(aB 200 (nS 1048576 (nS 48 (nS 64 (nS 64 (nS 7 (nS 7 (l,false))))))).1:Nat))) (fun B=>congrArg (Value.int .i64) (cT (aD 200 _) (by decide))) ?_;refine ga env fd plSq ?_;have hS:fZ (l,false)=fZ (l,false):=rfl
 conv at hS=>rhs;unfold fZ cf9 cf8 cf7 cf6 cf5 cf4 cf3 cf2 cf1
 generalize aB 200 (nS 1048576 (nS 48 (nS 64 (nS 64 (nS 7 (nS 7 (l,false))))))).1=x7 at hS ⊢;generalize aB 1048576 (nS 48 (nS 64 (nS 64 (nS 7 (nS 7 (l,false)))))).1=x6 at hS ⊢;generalize aB 48 (nS 64 (nS 64 (nS 7 (nS 7 (l,false))))).1=x5 at hS ⊢;generalize aB 64 (nS 64 (nS 7 (nS 7 (l,false)))).1=x4 at hS ⊢;generalize aB 64 (nS 7 (nS 7 (l,false))).1=x3 at hS ⊢;generalize aB 7 (nS 7 (l,false)).1=x2 at hS ⊢;generalize aB 7 (l,false).1=x1 at hS ⊢;generalize (nS 200 (nS 1048576 (nS 48 (nS 64 (nS 64 (nS 7 (nS 7 (l,false))))))))=t7 at hS ⊢;refine xV ?_;refine ga env fd plSq ?_;refine bY 4096 _ rfl (by decide) ?_;refine ga env fd plSq ?_;have hN:aB 4096 (iS t7).1<=4096:=aD _ _;generalize hA:actsR (aB 4096 (iS t7).1) (nS 4096 (iS t7))=as0 at hS;generalize aB 4096 (iS t7).1=N at hN hA ⊢;generalize nS 4096 (iS t7)=t9 at hA ⊢;generalize gN t7.1=x8 at hS ⊢;refine nO (AIF b rb w 86) AI.x (fun i:AI N t9=>sqL b (N-i.j)) (fun i=>[aKP,aI3 x1 x2 x3 x4 x5 x6 (.sl (fun _=>i.a) (fun _=>i.j) (fun _=>i.c)) x7 x8]) (fun i=>N-i.j) 101 (AI.zero N t9) (fun _=>rfl) (fun B x=>⟨rfl,rfl,rfl,rfl,trivial⟩) (fun B w1 F x=>AIF.zero F x) ?_;intro i J hJ;unfold AIF;generalize hm:N-i.j=m;refine ga env fd plSq ?_;by_cases hlt:i.j<N
 case neg =>
  refine aH 75 false (e:=.cmp .gtr (.x fun _=>(m:Int)) (.l 0)) (decide_eq_false (by show ¬(m:Int) > 0;omega)) ?_;have hl:=i.last (.inl (by have:=i.hj;omega));have hS2:fZ (l,false)=(⟨⟨x1,x2,x3,x4,x5,x6⟩,i.L.map (·.1),x7,x8⟩,i.t):=by rw[hS,<- hA,hl.1,hl.2]
  have hj2:=i.hL;have hj3:=i.hj;clear hS hl hA hJ;generalize i.a=a0;generalize i.c=c0;generalize i.t=t8 at hS2 ⊢;generalize i.L=L0 at hS2 hj2 ⊢;generalize i.j=n0 at hj2 hj3 ⊢;refine ga env fd plSq ?_;intro B w5 F;refine(fP b _ _ w5 F.z).mono ?_;rintro e w6 ⟨rfl,rfl⟩;rcases cV t8.1 t8.2 with hE|hE
  case inr =>
   rw[gY hS2 fun h=>by have h:=h.1;simp only at h;omega];refine⟨.i .i64 (.l 20),_,by rw[hE];rfl,fd.b,F,?_⟩;clear F;refine ga env fd plSq ?_;refine fa env fd ?_;intro B v F;exact⟨[],none,0,0,rfl,cZ.zero v,F.kept.below (Nat.le_refl _) fun k hk=>hk ▸ hwb⟩
  refine⟨.i .i64 (.l 0),_,by rw[hE];rfl,fd.b,F,?_⟩;clear F;refine ga env fd plSq ?_;intro B v F;have hI:∀u,dC u w.heap.size 86 19 (.slice a0 n0 c0) (L0.map fun p=>eZ p.1 p.2)->(∀p ∈ L0,cL u p.1 p.2)->cZ u ⟨⟨x1,x2,x3,x4,x5,x6⟩,L0.map (·.1),x7,x8⟩ L0 a0 n0 c0:=fun u h1 h2=>⟨⟨aU.cX h1,hj2,by omega,h2⟩,rfl⟩
  refine(vI ⟨⟨x1,x2,x3,x4,x5,x6⟩,L0.map (·.1),x7,x8⟩ L0 a0 n0 c0 v (hI v F.own F.now.1)).mono ?_
  rintro e w7 ⟨rfl,hb⟩;cases hok:jY ⟨⟨x1,x2,x3,x4,x5,x6⟩,L0.map (·.1),x7,x8⟩ with
  | false =>
   rw[gY hS2 fun h=>by have h:=h.2;simp only at h;rw[hok]at h;cases h];refine⟨.b (.l false),_,rfl,fd.b,F.call hb,?_⟩;clear F hb;refine ga env fd plSq ?_;refine fa env fd ?_;intro B v F;exact⟨[],none,0,0,rfl,cZ.zero v,F.kept.below (Nat.le_refl _) fun k hk=>hk ▸ hwb⟩
  | true =>
   rw[nV hS2 ⟨hE,hok⟩];refine⟨.b (.l true),_,rfl,fd.b,F.call hb,?_⟩;clear F hb;refine ga env fd plSq ?_;refine fa env fd ?_;intro B v F;exact⟨L0,a0,n0,c0,rfl,hI v F.own F.now.1,F.kept.below (Nat.le_refl _) fun k hk=>hk ▸ hwb⟩
 refine aH 75 true (e:=.cmp .gtr (.x fun _=>(m:Int)) (.l 0)) (decide_eq_true (by show (m:Int) > 0;omega)) ?_;refine ga env fd plSq ?_;refine bH (.pa fun _=>⟨b,1,none⟩) (fun B v F=>rZ (b:=b) (off:=0) (k:=1) bF rfl (by rw[St.aC];rfl) rfl rfl rfl rfl) ?_;refine ga env fd plSq ?_;cases hbd:i.t.2 with
 | true =>
  refine bH (.b (.l true)) (fun B v F=>iN (b:=b) (off:=1) bF rfl (by rw[St.aC];rfl) rfl rfl (F.z.bad hbd)) ?_;have hl:=i.last (.inr hbd);clear hbd hlt;have hS2:fZ (l,false)=(⟨⟨x1,x2,x3,x4,x5,x6⟩,i.L.map (·.1),x7,x8⟩,i.t):=by rw[hS,<- hA,hl.1,hl.2]
  have hj2:=i.hL;have hj3:=i.hj;clear hS hl hA hJ;generalize i.a=a0;generalize i.c=c0;generalize i.t=t8 at hS2 ⊢;generalize i.L=L0 at hS2 hj2 ⊢;generalize i.j=n0 at hj2 hj3 ⊢;refine ga env fd plSq ?_;intro B w5 F;refine(fP b _ _ w5 F.z).mono ?_;rintro e w6 ⟨rfl,rfl⟩;rcases cV t8.1 t8.2 with hE|hE
  case inr =>
   rw[gY hS2 fun h=>by have h:=h.1;simp only at h;omega];refine⟨.i .i64 (.l 20),_,by rw[hE];rfl,fd.b,F,?_⟩;clear F;refine ga env fd plSq ?_;refine fa env fd ?_;intro B v F;exact⟨[],none,0,0,rfl,cZ.zero v,F.kept.below (Nat.le_refl _) fun k hk=>hk ▸ hwb⟩
  refine⟨.i .i64 (.l 0),_,by rw[hE];rfl,fd.b,F,?_⟩;clear F;refine ga env fd plSq ?_;intro B v F;have hI:∀u,dC u w.heap.size 86 19 (.slice a0 n0 c0) (L0.map fun p=>eZ p.1 p.2)->(∀p ∈ L0,cL u p.1 p.2)->cZ u ⟨⟨x1,x2,x3,x4,x5,x6⟩,L0.map (·.1),x7,x8⟩ L0 a0 n0 c0:=fun u h1 h2=>⟨⟨aU.cX h1,hj2,by omega,h2⟩,rfl⟩
  refine(vI ⟨⟨x1,x2,x3,x4,x5,x6⟩,L0.map (·.1),x7,x8⟩ L0 a0 n0 c0 v (hI v F.own F.now.1)).mono ?_
  rintro e w7 ⟨rfl,hb⟩;cases hok:jY ⟨⟨x1,x2,x3,x4,x5,x6⟩,L0.map (·.1),x7,x8⟩ with
  | false =>
   rw[gY hS2 fun h=>by have h:=h.2;simp only at h;rw[hok]at h;cases h];refine⟨.b (.l false),_,rfl,fd.b,F.call hb,?_⟩;clear F hb;refine ga env fd plSq ?_;refine fa env fd ?_;intro B v F;exact⟨[],none,0,0,rfl,cZ.zero v,F.kept.below (Nat.le_refl _) fun k hk=>hk ▸ hwb⟩
  | true =>
   rw[nV hS2 ⟨hE,hok⟩];refine⟨.b (.l true),_,rfl,fd.b,F.call hb,?_⟩;clear F hb;refine ga env fd plSq ?_;refine fa env fd ?_;intro B v F;exact⟨L0,a0,n0,c0,rfl,hI v F.own F.now.1,F.kept.below (Nat.le_refl _) fun k hk=>hk ▸ hwb⟩
 | false =>
 refine bH (.b (.l false)) (fun B v F=>iN (b:=b) (off:=1) bF rfl (by rw[St.aC];rfl) rfl rfl (F.z.bad hbd)) ?_;refine ga env fd plSq ?_;intro B v F;refine(aIT F.z F.lt.2).mono ?_;rintro e w4 ⟨A,rfl,hs,hz,hk⟩;obtain⟨ar,har⟩:∃ar,ar=jH i.t:=⟨_,rfl⟩;rw[<- har]at hs hz ⊢;refine⟨.g (fK ar.1 A),_,rfl,fd.b,F.rdR hk (dT (t:=ar.2) hz) hs,?_⟩;clear F hs hz hk;obtain⟨a1,t1⟩:=ar;simp only;refine ga env fd plSq ?_;have hlen:(i.L.map fun p=>eZ p.1 p.2).length=i.j:=by rw[List.length_map,i.hL]
 refine jI rE hlen (Nat.le_trans (Nat.le_of_lt hlt) (Nat.le_trans hN (by decide))) ?_;intro a' g c';refine ga env fd plSq ?_;refine sG hJ (i.next hlt hbd a1 t1 har A a' c') (fun _=>rfl) (fun _=>(by omega:N-(i.j+1)<N-i.j)) (fun B x=>⟨rfl,rfl,rfl,?_,trivial⟩) (fun B v F x=>AIF.next hlt hbd har F x);simp only[AV.den,IE.den,getT];show Value.int .u64 ((N-(i.j+1):Nat):Int)=_;rw[show (m:Int)-1=((N-(i.j+1):Nat):Int) by omega,wrU (by omega)]

def Zk (w:World)(Z:World->Prop)(u:World):Prop:=Kept w u (fun k=>k≠0)/\Z u
theorem FrD.below {w0 w:World}{rb:Nat}{R:World->Prop}{e:TypeId}{sz:Nat}{v:Value}{rs:List (List Value)}{L:Bx}{Z:World->Prop}(F:FrD 0 rb w0 R (Zk w0 Z) e sz v rs w L):Below w0.heap.size w0 w:=by
 have h1:=F.kept;have h2:=F.z.1;refine⟨h1.os,h1.tape,h1.output,h1.size,fun k hk=>?_⟩;by_cases h:k=0
 ·exact h2.block k hk fun h3=>h3 h
 ·exact h1.block k hk h
theorem FrD.begin {w:World}(h0:0<w.heap.size){Z:World->Prop}(e:TypeId)(sz:Nat)(hZ:∀u,Below w.heap.size w u->Z u):FrD 0 0 w (fun _=>True) (Zk w Z) e sz (.slice none 0 0) [] w [] :=
 FrD.start w h0 h0 e sz (Sf.all _ _) fun u bu=>⟨Kept.aY bu fun k h1 h2=>by omega,hZ u bu⟩
structure GI (n:Nat) where
 j:Nat
 a:Option Addr
 c:Nat
 x:Nat->Value
 hj:j<=n
def bJS (s a1:Option Addr)(n c j c1:Nat):List (Nat × AV):=[(3,.sl (fun _=>a1) (fun _=>j) (fun _=>c1)),(6,.sl (fun _=>s) (fun _=>n) (fun _=>c)),(7,.i .i64 (.x fun _=>(n:Int))),(8,.i .i64 (.x fun _=>(j:Int)))]
theorem wU (l:List bP)(a:Option Addr)(n c:Nat)(w:World)(hr:aU w 2 (.slice a n c) (l.map trV))(hn:l.length=n)(hm:n<=2147483648)(h0:0<w.heap.size):Calls Tryz.prog 82 #[.slice a n c] w fun e w'=>∃a' c',e = .returned (.slice a' n c')/\Sf (fun k=>k<w.heap.size) w' (fun u=>aU u 2 (.slice a' n c') (l.map trV))/\Below w.heap.size w w':=by
 have F0:FrD 0 0 w (fun _=>True) (Zk w fun u=>aU u 2 (.slice a n c) (l.map trV)) 121 2 (.slice none 0 0) [] w []:=FrD.begin h0 _ _ fun _ bu=>hr.below bu;refine enter (F:=FrD 0 0 w (fun _=>True) (Zk w fun u=>aU u 2 (.slice a n c) (l.map trV)) 121 2 (.slice none 0 0) []) (fun _=>0) [.sl (fun _=>a) (fun _=>n) (fun _=>c)] [] Tryz.func82 rfl rfl F0 17 rfl ?_;refine ga env fd aA ?_;refine nO (fun i:GI n=>FrD 0 0 w (fun _=>True) (Zk w fun u=>aU u 2 (.slice a n c) (l.map trV)) 121 2 (.slice i.a i.j i.c) ((l.take i.j).map trV)) GI.x (fun i=>bJS a i.a n c i.j i.c) (fun _=>[]) (fun i=>n-i.j) 18 (fun x=>⟨0,none,0,x,Nat.zero_le _⟩) (fun _=>rfl) (fun B x=>⟨rfl,rfl,rfl,rfl,trivial⟩) (fun B w1 F x=>F) ?_;intro i J hJ;refine ga env fd aA ?_;refine⟨fun q=>?_,fun q=>?_⟩
 ·have hlt:i.j<n:=by simpa [BE.den,cmpB,IE.den] using q
  clear q;have hlL:i.j<l.length:=hn ▸ hlt;obtain⟨b,o,rfl,_⟩:=hr.at (j:=i.j) (by rw[List.length_map];exact hlL);have hrg:=fun v (hv:aU v 2 (.slice (some ⟨b,o,none⟩) n c) (l.map trV))=>hv.range (j:=i.j) (by rw[List.length_map];exact hlL);rw[List.getElem_map]at hrg;have htk:l.take (i.j+1)=l.take i.j ++ [l[i.j]]:=List.take_succ_eq_append_getElem hlL;generalize l[i.j]=p at hrg htk;refine ga env fd aA ?_;refine bH (.pa fun _=>⟨b,o+i.j*2,none⟩) (fun B v F=>dI (e:=112) (n:=2) rfl Tryz.underlying74 (by kernel_rfl) (by rw[St.aC];rfl) (by rw[St.aC];rfl) hlt) ?_;refine ga env fd aA ?_;refine bH (.g [.i .u16 (.x fun _=>p.f),.i .u32 (.x fun _=>p.t)]) (fun B v F=>eL (cs:=trV p) (b:=b) (off:=o+i.j*2) rfl (by rw[St.aC];rfl) (hrg _ F.z.2) Tryz.underlying112 rfl (by kernel_rfl)) ?_;refine ga env fd aA ?_;have hlen:((l.take i.j).map trV).length=i.j:=by rw[List.length_map,List.length_take];omega
  refine oA iY hlen (by omega) ?_;intro a' g c';refine ga env fd aA ?_;refine sG hJ (fun x=>⟨i.j+1,a',c',x,hlt⟩) (fun _=>rfl) (fun _=>(by omega:n-(i.j+1)<n-i.j)) (fun B x=>⟨rfl,rfl,rfl,?_,trivial⟩) (fun B v F x=>?_)
  ·simp only[AV.den,IE.den,getT];rw[wrI hlt (by omega)]
  ·show FrD 0 0 w (fun _=>True) (Zk w fun u=>aU u 2 (.slice (some ⟨b,o,none⟩) n c) (l.map trV)) 121 2 (.slice a' (i.j+1) c') ((l.take (i.j+1)).map trV) v [];rw[htk,List.map_append];exact FrD.less (L:=[]) F
 ·have hje:i.j=n:=by
   have:¬i.j<n:=by simpa [BE.den,cmpB,IE.den] using q
   have:=i.hj;omega
  clear q;refine ga env fd aA ?_;refine fa env fd ?_;intro B v F;have hb:=FrD.below F;have ho:=F.own;rw[hje,List.take_of_length_le (by omega)]at ho;exact⟨i.a,i.c,congrArg (fun z=>Ending.returned (.slice i.a z i.c)) hje,(aIu ho).imp fun _ h=>aU.cX h,hb⟩
def plPa:Nat->Option Pl
 | 1=>some ⟨[0,1,0,4,0,16,0,64,0,256,0,1024,0,4096,12288,32767,65535],16384,[.h [0,1,2,3,4,5,6,7,8,9,10,11,12,13],.o 14,.h [15],.o 16],[]⟩
 | _=>none
theorem wQ (p:cS)(A:dN)(w:World)(h:cL w p A)(h0:0<w.heap.size):Calls Tryz.prog 34 #[.agg (eZ p A).toArray] w fun e w'=>∃a' c',e = .returned (.agg (eZ p ⟨A.com,a',A.tn,c'⟩).toArray)/\Sf (fun k=>k<w.heap.size) w' (fun u=>aU u 2 (.slice a' A.tn c') (p.ts.map trV))/\Below w.heap.size w w':=by
 have F0:Fr (fun _=>False) w w [] (fun u=>cL u p A/\0<u.heap.size):=Fr.zero w nofun fun v kv=>⟨h.below (kv.below (Nat.le_refl _) nofun),Nat.lt_of_lt_of_le h0 kv.size⟩;clear h h0;refine enter (F:=fun w' L=>Fr (fun _=>False) w w' L (fun u=>cL u p A/\0<u.heap.size)) (fun _=>0) [.g (fK p A)] [] Tryz.func34 rfl rfl F0 18 rfl ?_;refine ga env (Fr.frm _ _ _) plPa ?_;intro B v F;have hn:=F.saf.now.1;refine(wU p.ts A.ta A.tn A.tc v hn.ts hn.n (hn.n ▸ hn.sm) F.saf.now.2).mono ?_;rintro e w2 ⟨a',c',rfl,hs,hb⟩;have hlt:w.heap.size<=v.heap.size:=F.bel.size;refine⟨.sl (fun _=>a') (fun _=>A.tn) (fun _=>c'),(fun w' L=>Fr (fun _=>False) w w' L (fun u=>Sf (fun k=>k<v.heap.size) u (fun u=>aU u 2 (.slice a' A.tn c') (p.ts.map trV))/\cL u p A/\0<u.heap.size)),rfl,(Fr.frm _ _ _).b,F.next hb (fun u ku=>hs.to (ku.mono fun k hk h=>?_)),?_⟩
 ·rcases h with h|h
  ·exact h.elim
  ·obtain⟨q,hq,rfl⟩:=List.mem_map.1 h;exact(F.rng q hq).2
 clear F hs hb hn;refine ga env (Fr.frm _ _ _) plPa ?_;refine fa env (Fr.frm _ _ _) ?_;intro B u F;exact⟨a',c',rfl,fun u2 ku=>F.saf.now.1 u2 (ku.mono fun k hk h=>by omega),F.bel⟩
structure PL (L:List (cS × dN)) where
 j:Nat
 a:Option Addr
 c:Nat
 M:List (cS × dN)
 x:Nat->Value
 hj:j<=L.length
 hM:M.length=j
 he:M.map (fun p=>(p.1,p.2.com))=(L.take j).map fun p=>(p.1,p.2.com)
def PL.zero (L:List (cS × dN))(x:Nat->Value):PL L:=⟨0,none,0,[],x,Nat.zero_le _,rfl,rfl⟩
def PL.next {L:List (cS × dN)}(i:PL L)(h:i.j<L.length)(p:cS)(A:dN)(hp:L[i.j]=(p,A))(B:dN)(hB:B.com=A.com)(a:Option Addr)(c:Nat)(x:Nat->Value):PL L:=⟨i.j+1,a,c,i.M ++ [(p,B)],x,h,by rw[List.length_append,i.hM];rfl,by
 rw[List.map_append,i.he,List.take_succ_eq_append_getElem h,List.map_append,hp];simp[hB]⟩
def aJp (u:World)(p:cS × dN):Prop:=aU u 2 (.slice p.2.ta p.2.tn p.2.tc) (p.1.ts.map trV)/\p.1.ts.length=p.2.tn/\p.1.ts.length<=2147483648
def PLF (w:World)(Z:World->Prop){L:List (cS × dN)}(i:PL L)(v:World)(B:Bx):Prop:=FrD 0 0 w (fun u=>(∀p ∈ i.M,aJp u p)/\True) (Zk w Z) 86 19 (.slice i.a i.j i.c) (i.M.map fun p=>eZ p.1 p.2) v B
theorem PLF.zero {w v:World}{Z:World->Prop}{L:List (cS × dN)}{B:Bx}(F:FrD 0 0 w (fun _=>True) (Zk w Z) 86 19 (.slice none 0 0) [] v B)(x:Nat->Value):PLF w Z (PL.zero L x) v B:=F.imp fun _ _=>⟨fun _ hp=>absurd hp List.not_mem_nil,trivial⟩
theorem PLF.next {w v:World}{Z:World->Prop}{L:List (cS × dN)}{Bs:Bx}{i:PL L}{p:cS}{A B:dN}{a:Option Addr}{c:Nat}(h:i.j<L.length)(hp:L[i.j]=(p,A))(hB:B.com=A.com)
  (F:FrD 0 0 w (fun u=>aJp u (p,B)/\(∀p ∈ i.M,aJp u p)/\True) (Zk w Z) 86 19 (.slice a (i.j+1) c) ((i.M.map fun p=>eZ p.1 p.2) ++ [AV.denL (fun _=>0) (fK p B)]) v Bs) (x:Nat->Value):PLF w Z (i.next h p A hp B hB a c x) v Bs:=by
 unfold PLF PL.next;simp only[List.map_append,List.map_cons,List.map_nil];rw[qJ]at F;exact F.imp fun u h=>⟨fun p hp=>by
  rcases List.mem_append.1 hp with hp|hp
  ·exact h.2.1 p hp
  ·obtain rfl:=List.mem_singleton.1 hp;exact h.1,trivial⟩
def plLa:Nat->Option Pl
 | 5=>some ⟨[0,1,0,4,12,31,63,127],8,[.h [0,1,2],.o 3,.o 4,.o 5,.h [6],.o 7],[]⟩
 | _=>none
def pnL (s:Option Addr)(n c j:Nat):List (Nat × AV):=[(2,.p 1 0),(3,.p 2 0),(14,.sl (fun _=>s) (fun _=>n) (fun _=>c)),(15,.i .i64 (.x fun _=>(n:Int))),(16,.i .i64 (.x fun _=>(j:Int)))]
theorem vG (s:kN)(L:List (cS × dN))(a:Option Addr)(n c:Nat)(w:World)(h:cZ w s L a n c)(h0:0<w.heap.size):Calls Tryz.prog 10 #[.agg (tE s a n c).toArray] w fun e w'=>∃L' a' c',e = .returned (.agg (tE s a' n c').toArray)/\cZ w' s L' a' n c'/\Below w.heap.size w w':=by
 have hn:=h.acts.ln;have hsm:=h.acts.sm;have F0:FrD 0 0 w (fun _=>True) (Zk w fun u=>Below w.heap.size w u/\bI u L a n c) 86 19 (.slice none 0 0) [] w []:=FrD.begin h0 _ _ fun _ bu=>⟨bu,h.acts.below bu⟩;refine enter (F:=FrD 0 0 w (fun _=>True) (Zk w fun u=>Below w.heap.size w u/\bI u L a n c) 86 19 (.slice none 0 0) []) (fun _=>0) [.g (jX s a n c)] [] Tryz.func10 rfl rfl F0 28 rfl ?_;refine ga env fd plLa ?_;refine nO (PLF w fun u=>Below w.heap.size w u/\bI u L a n c) PL.x (fun i:PL L=>pnL a n c i.j) (fun i=>[jX s a n c,aKP,[.i .i64 (.x fun _=>s.cfg.s),.i .i64 (.x fun _=>s.cfg.m),.i .i64 (.x fun _=>s.cfg.el),.i .i64 (.x fun _=>s.cfg.bt),.i .i64 (.x fun _=>s.cfg.ev),.i .i64 (.x fun _=>s.cfg.rm),.sl (fun _=>i.a) (fun _=>i.j) (fun _=>i.c),.i .i64 (.x fun _=>s.rounds),.i .i64 (.x fun _=>s.by')]]) (fun i=>n-i.j) 29 (PL.zero L) (fun _=>rfl) (fun B x=>⟨rfl,rfl,rfl,rfl,rfl,trivial⟩) (fun B w1 F x=>PLF.zero F x) ?_;intro i J hJ;unfold PLF;refine ga env fd plLa ?_;refine⟨fun q=>?_,fun q=>?_⟩
 ·have hlt:i.j<n:=by simpa [BE.den,cmpB,IE.den] using q
  clear q;have hlL:i.j<L.length:=hn ▸ hlt;obtain⟨b,o,rfl⟩:=h.acts.base hlt;have hrg:=fun v (hv:bI v L (some ⟨b,o,none⟩) n c)=>hv.range hlL;have hpm:=List.getElem_mem hlL;obtain⟨p,A,hpe⟩:∃p A,L[i.j]=(p,A):=⟨_,_,rfl⟩;rw[hpe]at hrg hpm;refine ga env fd plLa ?_;refine bH (.pa fun _=>⟨b,o+i.j*19,none⟩) (fun B v F=>dI (e:=76) (n:=19) rfl Tryz.underlying26 (by kernel_rfl) (by rw[St.aC];rfl) (by rw[St.aC];rfl) hlt) ?_;refine ga env fd plLa ?_;refine bH (.g (fK p A)) (fun B v F=>eL (cs:=eZ p A) (b:=b) (off:=o+i.j*19) rfl (by rw[St.aC];rfl) (hrg _ F.z.2.2) Tryz.underlying76 rfl (by kernel_rfl)) ?_;refine ga env fd plLa ?_;intro B v F;have hA:=F.z.2.2.each _ hpm;refine(wQ p A v hA F.lt.1).mono ?_;rintro e w2 ⟨ta,tc,rfl,hs,hb⟩;have hts:=hA.n;have htm:=hA.sm;refine⟨.g (fK p ⟨A.com,ta,A.tn,tc⟩),_,rfl,fd.b,F.tM hb (R':=fun u=>aJp u (p,⟨A.com,ta,A.tn,tc⟩)) (hs.imp fun u hu=>⟨hu,hts,htm⟩),?_⟩;clear F hs hb hA;have hlen:(i.M.map fun p=>eZ p.1 p.2).length=i.j:=by rw[List.length_map,i.hM]
  refine ga env fd plLa ?_;refine jI rE hlen (by omega) ?_;intro a' g c';refine ga env fd plLa ?_;refine sG hJ (i.next hlL p A hpe ⟨A.com,ta,A.tn,tc⟩ rfl a' c') (fun _=>rfl) (fun _=>(by omega:n-(i.j+1)<n-i.j)) (fun B x=>⟨rfl,rfl,rfl,rfl,?_,trivial⟩) (fun B v F x=>PLF.next (B:=⟨A.com,ta,A.tn,tc⟩) hlL hpe rfl (FrD.less (L:=[(B 0,_),(B 1,_),(B 2,_)]) F) x);simp only[AV.den,IE.den,getT];rw[wrI hlt (by omega)];rfl
 ·have hje:i.j=n:=by
   have:¬i.j<n:=by simpa [BE.den,cmpB,IE.den] using q
   have:=i.hj;omega
  clear q;refine ga env fd plLa ?_;refine fa env fd ?_;intro B v F;have ho:=F.own;have hM:=i.hM;have he:=i.he;rw[hje]at ho hM he;rw[List.take_of_length_le (by omega)]at he;refine⟨i.M,i.a,i.c,congrArg (fun z=>Ending.returned (.agg (tE s i.a z i.c).toArray)) hje,⟨⟨aU.cX ho,hM,hsm,fun p hp=>?_⟩,?_⟩,FrD.below F⟩
  ·obtain⟨q,hq,e⟩:=List.mem_map.1 (he ▸ List.mem_map.2 ⟨p,hp,rfl⟩:(p.1,p.2.com) ∈ L.map fun p=>(p.1,p.2.com));have h1:=(F.z.2.2.each q hq).com;have e1:q.1=p.1:=(Prod.mk.inj e).1;have e2:q.2.com=p.2.com:=(Prod.mk.inj e).2;have h2:=F.now.1 p hp;exact⟨e1 ▸ e2 ▸ h1,h2.1,h2.2.1,h2.2.2⟩
  ·rw[h.eq];have:=congrArg (List.map (·.1)) he
   rw[List.map_map,List.map_map]at this;exact this.symm

def akL (j:Nat):List (Nat × AV):=[(2,.p 0 0),(3,.p 1 0),(5,.i .i64 (.x fun _=>(j:Int)))]
theorem mH {α:Type}{l m:List α}{j:Nat}(h:l.take j=m.take j)(hl:j<l.length)(hm:j<m.length)(e:l[j]=m[j]):l.take (j+1)=m.take (j+1):=by
 rw[List.take_succ_eq_append_getElem hl,List.take_succ_eq_append_getElem hm,h,e]
theorem wO (a b:cS)(A B:dN)(w:World)(h:cL w a A)(h2:cL w b B):Calls Tryz.prog 33 #[.agg (eZ a A).toArray,.agg (eZ b B).toArray] w fun e w'=>e = .returned (.bool (decide (a=b)))/\Below w.heap.size w w':=by
 obtain⟨Aq,Aa,An,Ac⟩:=A;obtain⟨Bq,Ba,Bn,Bc⟩:=B;have F0:Fe 0 (fun v=>Below w.heap.size w v/\cL v a ⟨Aq,Aa,An,Ac⟩/\cL v b ⟨Bq,Ba,Bn,Bc⟩) w []:=Fe.start fun _ bv=>⟨bv,h.below bv,h2.below bv⟩;have ha:=h.n;have hb:=h2.n;have hsa:=h.sm;simp only at ha hb;refine enter (fun _=>0) [.g (fK a ⟨Aq,Aa,An,Ac⟩),.g (fK b ⟨Bq,Ba,Bn,Bc⟩)] [] Tryz.func33 rfl rfl F0 72 rfl ?_;refine ga env (Fe.frm 0 _) aA ?_;by_cases e0:a.k=b.k
 case neg =>
  refine aH 11 true (e:=.cmp .neq (.x fun _=>a.k) (.x fun _=>b.k)) (by show (a.k != b.k)=true;simpa using e0) ?_;rw[decide_eq_false (fun e:a=b=>e0 (by rw[e]))];refine ga env (Fe.frm 0 _) aA ?_;refine fa env (Fe.frm 0 _) ?_;intro B' v F;exact⟨rfl,F.now.1⟩
 refine aH 11 false (e:=.cmp .neq (.x fun _=>a.k) (.x fun _=>b.k)) (by show (a.k != b.k)=false;simpa using e0) ?_;refine ga env (Fe.frm 0 _) aA ?_;by_cases e1:a.who=b.who
 case neg =>
  refine aH 18 true (e:=.cmp .neq (.x fun _=>a.who) (.x fun _=>b.who)) (by show (a.who != b.who)=true;simpa using e1) ?_;rw[decide_eq_false (fun e:a=b=>e1 (by rw[e]))];refine ga env (Fe.frm 0 _) aA ?_;refine fa env (Fe.frm 0 _) ?_;intro B' v F;exact⟨rfl,F.now.1⟩
 refine aH 18 false (e:=.cmp .neq (.x fun _=>a.who) (.x fun _=>b.who)) (by show (a.who != b.who)=false;simpa using e1) ?_;refine ga env (Fe.frm 0 _) aA ?_;by_cases e2:a.n=b.n
 case neg =>
  refine aH 25 true (e:=.cmp .neq (.x fun _=>a.n) (.x fun _=>b.n)) (by show (a.n != b.n)=true;simpa using e2) ?_;rw[decide_eq_false (fun e:a=b=>e2 (by rw[e]))];refine ga env (Fe.frm 0 _) aA ?_;refine fa env (Fe.frm 0 _) ?_;intro B' v F;exact⟨rfl,F.now.1⟩
 refine aH 25 false (e:=.cmp .neq (.x fun _=>a.n) (.x fun _=>b.n)) (by show (a.n != b.n)=false;simpa using e2) ?_;refine ga env (Fe.frm 0 _) aA ?_;by_cases e3:a.to=b.to
 case neg =>
  refine aH 32 true (e:=.cmp .neq (.x fun _=>a.to) (.x fun _=>b.to)) (by show (a.to != b.to)=true;simpa using e3) ?_;rw[decide_eq_false (fun e:a=b=>e3 (by rw[e]))];refine ga env (Fe.frm 0 _) aA ?_;refine fa env (Fe.frm 0 _) ?_;intro B' v F;exact⟨rfl,F.now.1⟩
 refine aH 32 false (e:=.cmp .neq (.x fun _=>a.to) (.x fun _=>b.to)) (by show (a.to != b.to)=false;simpa using e3) ?_;refine ga env (Fe.frm 0 _) aA ?_;by_cases e4:a.id=b.id
 case neg =>
  refine aH 39 true (e:=.cmp .neq (.x fun _=>a.id) (.x fun _=>b.id)) (by show (a.id != b.id)=true;simpa using e4) ?_;rw[decide_eq_false (fun e:a=b=>e4 (by rw[e]))];refine ga env (Fe.frm 0 _) aA ?_;refine fa env (Fe.frm 0 _) ?_;intro B' v F;exact⟨rfl,F.now.1⟩
 refine aH 39 false (e:=.cmp .neq (.x fun _=>a.id) (.x fun _=>b.id)) (by show (a.id != b.id)=false;simpa using e4) ?_;refine ga env (Fe.frm 0 _) aA ?_;intro B' v F;refine(iU a.com b.com Aq Bq v F.now.2.1.com F.now.2.2.com).mono ?_;rintro e w2 ⟨rfl,hbw⟩;by_cases e5:a.com=b.com
 case neg =>
  refine⟨.b (.l false),_,by rw[decide_eq_false e5];rfl,(Fe.frm 2 _).b,F.on hbw,?_⟩;clear F hbw;rw[decide_eq_false (fun e:a=b=>e5 (by rw[e]))];refine ga env (Fe.frm 2 _) aA ?_;refine fa env (Fe.frm 2 _) ?_;intro B' v F;exact⟨rfl,F.now.1⟩
 refine⟨.b (.l true),_,by rw[decide_eq_true e5];rfl,(Fe.frm 2 _).b,F.on hbw,?_⟩;clear F hbw;refine ga env (Fe.frm 2 _) aA ?_;refine⟨fun q=>?_,fun q=>?_⟩
 ·have e6:¬a.ts=b.ts:=fun e=>by
   have q:((An:Int) != (Bn:Int))=true:=q;rw[<- ha,<- hb,e,bne_self_eq_false]at q;cases q
  rw[decide_eq_false (fun e:a=b=>e6 (by rw[e]))];refine ga env (Fe.frm 2 _) aA ?_;refine fa env (Fe.frm 2 _) ?_;intro B' v F;exact⟨rfl,F.now.1⟩
 have hl:An=Bn:=by
  have q:((An:Int) != (Bn:Int))=false:=q;have q:(An:Int)=(Bn:Int):=by simpa using q
  omega
 clear q;have hts:decide (a=b)=decide (a.ts=b.ts):=by
  obtain⟨k,who,n,to,id,com,ts⟩:=a;obtain⟨k2,who2,n2,to2,id2,com2,ts2⟩:=b;simp only at e0 e1 e2 e3 e4 e5;subst e0 e1 e2 e3 e4 e5;simp
 rw[hts];clear hts e0 e1 e2 e3 e4 e5;refine ga env (Fe.frm 2 _) aA ?_;refine nP (Fe 2 (fun v=>Below w.heap.size w v/\cL v a ⟨Aq,Aa,An,Ac⟩/\cL v b ⟨Bq,Ba,Bn,Bc⟩)) akL 74 An (fun j=>a.ts.take j=b.ts.take j) rfl (fun B=>⟨rfl,rfl,rfl,trivial⟩) (fun _ _ h=>h) ?_;intro i J hJ;refine ga env (Fe.frm 2 _) aA ?_;refine⟨fun q=>?_,fun q=>?_⟩
 ·have hlt:i.j<An:=by simpa [BE.den,cmpB,IE.den] using q
  clear q;have hltb:i.j<Bn:=hl ▸ hlt;have hla:i.j<a.ts.length:=ha ▸ hlt;have hlb:i.j<b.ts.length:=by omega
  obtain⟨ba,oa,rfl,_⟩:=h.ts.at (j:=i.j) (by rw[List.length_map];exact hla);obtain⟨bb,ob,rfl,_⟩:=h2.ts.at (j:=i.j) (by rw[List.length_map];exact hlb);have hra:=fun v (hv:cL v a ⟨Aq,some ⟨ba,oa,none⟩,An,Ac⟩)=>hv.ts.range (j:=i.j) (by rw[List.length_map];exact hla);have hrb:=fun v (hv:cL v b ⟨Bq,some ⟨bb,ob,none⟩,Bn,Bc⟩)=>hv.ts.range (j:=i.j) (by rw[List.length_map];exact hlb);rw[List.getElem_map]at hra hrb;have hnx:=mH i.hp hla hlb;have hne:a.ts[i.j]≠b.ts[i.j]->a.ts≠b.ts:=fun h e=>h (by simp only[e]);generalize a.ts[i.j]=p at hra hnx hne;generalize b.ts[i.j]=q at hrb hnx hne;refine ga env (Fe.frm 2 _) aA ?_;refine aKG env (Fe.frm 2 _) [0,1,0,7,15,0,32,0,224,480,1023] [0,1,2,3,4,5,6,7,8,9,10] [] (fun v=>cL v a ⟨Aq,some ⟨ba,oa,none⟩,An,Ac⟩/\cL v b ⟨Bq,some ⟨bb,ob,none⟩,Bn,Bc⟩) (fun _ _ F=>F.now.2) (fun w o h=>⟨h.1.below ((Below.refl _ _).alloc (Nat.le_refl _) o),h.2.below ((Below.refl _ _).alloc (Nat.le_refl _) o)⟩) ?_;refine kS bF ?_;refine nA (.pa fun _=>⟨ba,oa+i.j*2,none⟩) (fun B' v _=>dI (e:=121) (n:=2) rfl Tryz.underlying84 (by kernel_rfl) (by rw[St.aC];rfl) (by rw[St.aC];rfl) hlt) ?_;refine kS bF ?_;refine nA (.g [.i .u16 (.x fun _=>p.f),.i .u32 (.x fun _=>p.t)]) (fun B' v hv=>eL (cs:=trV p) (b:=ba) (off:=oa+i.j*2) rfl (by rw[St.aC];rfl) (hra _ (hv rfl).2.1) Tryz.underlying121 rfl (by kernel_rfl)) ?_;refine kS bF ?_;refine nA (.pa fun _=>⟨bb,ob+i.j*2,none⟩) (fun B' v _=>dI (e:=121) (n:=2) rfl Tryz.underlying84 (by kernel_rfl) (by rw[St.aC];rfl) (by rw[St.aC];rfl) hltb) ?_;refine kS bF ?_;refine nA (.g [.i .u16 (.x fun _=>q.f),.i .u32 (.x fun _=>q.t)]) (fun B' v hv=>eL (cs:=trV q) (b:=bb) (off:=ob+i.j*2) rfl (by rw[St.aC];rfl) (hrb _ (hv rfl).2.2) Tryz.underlying121 rfl (by kernel_rfl)) ?_;refine kS bF ?_;refine⟨rfl,?_⟩;refine ga env (Fe.frm 2 _) aA ?_;refine⟨fun q2=>?_,fun q2=>?_⟩
  ·have hpq:p≠q:=fun e=>by
    subst e;revert q2;simp[BE.den,cmpB,IE.den]
   rw[decide_eq_false (hne hpq)];refine ga env (Fe.frm 2 _) aA ?_;refine fa env (Fe.frm 2 _) ?_;intro B' v F;exact⟨rfl,F.now.1⟩
  ·have hpq:p=q:=by
    obtain⟨pf,pt⟩:=p;obtain⟨qf,qt⟩:=q;revert q2;simp[BE.den,cmpB,IE.den]
   clear q2;refine ga env (Fe.frm 2 _) aA ?_;refine sH hJ hlt (hnx hpq) (fun B=>⟨rfl,rfl,?_,trivial⟩) (fun _ _ h=>h);simp only[AV.den,IE.den,getT];rw[wrI hlt (by omega)]
 ·have hje:i.j=An:=by
   have:¬i.j<An:=by simpa [BE.den,cmpB,IE.den] using q
   have:=i.hj;omega
  have he:=i.hp;rw[List.take_of_length_le (by omega),List.take_of_length_le (by omega)]at he;rw[decide_eq_true he];clear q;refine ga env (Fe.frm 2 _) aA ?_;refine fa env (Fe.frm 2 _) ?_;intro B' v F;exact⟨rfl,F.now.1⟩
def smL (j:Nat):List (Nat × AV):=[(2,.p 0 0),(3,.p 1 0),(5,.i .i64 (.x fun _=>(j:Int)))]
theorem zY (s t:kN)(L M:List (cS × dN))(a a2:Option Addr)(n n2 c c2:Nat)(w:World)(h:cZ w s L a n c)(h2:cZ w t M a2 n2 c2):Calls Tryz.prog 9 #[.agg (tE s a n c).toArray,.agg (tE t a2 n2 c2).toArray] w fun e w'=>e = .returned (.bool (decide (s=t)))/\Below w.heap.size w w':=by
 have F0:Fe 0 (fun v=>Below w.heap.size w v/\bI v L a n c/\bI v M a2 n2 c2) w []:=Fe.start fun _ bv=>⟨bv,h.acts.below bv,h2.acts.below bv⟩;have hn:=h.acts.ln;have hn2:=h2.acts.ln;have hsm:=h.acts.sm;obtain⟨cfg,acts,rounds,by1⟩:=s;obtain⟨cfg2,acts2,rounds2,by2⟩:=t;have he:=h.eq;have he2:=h2.eq;simp only at he he2;subst he he2;refine enter (fun _=>0) [.g (jX ⟨cfg,L.map (·.1),rounds,by1⟩ a n c),.g (jX ⟨cfg2,M.map (·.1),rounds2,by2⟩ a2 n2 c2)] [] Tryz.func9 rfl rfl F0 51 rfl ?_
 refine ga env (Fe.frm 0 _) aA ?_;by_cases ec:cfg=cfg2
 case neg =>
  refine aIb 11 (.b (.l true)) ?_ (fun B=>by
   show Value.bool _=Value.bool true;obtain⟨x1,x2,x3,x4,x5,x6⟩:=cfg;obtain⟨y1,y2,y3,y4,y5,y6⟩:=cfg2;simp only[vW.mk.injEq]at ec
   congr 1
   simp[BE.den,cmpB,IE.den];omega)
  refine ga env (Fe.frm 0 _) aA ?_;refine fa env (Fe.frm 0 _) ?_;intro B' v F;exact⟨by rw[decide_eq_false (fun e=>ec (by injection e))];rfl,F.now.1⟩
 subst ec;refine aIb 11 (.b (.l false)) ?_ (fun B=>by
  show Value.bool _=Value.bool false
  congr 1
  simp[BE.den,cmpB,IE.den])
 refine ga env (Fe.frm 0 _) aA ?_;by_cases hr:rounds=rounds2
 case neg =>
  refine aH 18 true (e:=.cmp .neq (.x fun _=>rounds) (.x fun _=>rounds2)) (by show (rounds != rounds2)=true;simpa using hr) ?_;refine ga env (Fe.frm 0 _) aA ?_;refine fa env (Fe.frm 0 _) ?_;intro B' v F;exact⟨by rw[decide_eq_false (fun e=>hr (by injection e))];rfl,F.now.1⟩
 subst hr;refine aH 18 false (e:=.cmp .neq (.x fun _=>rounds) (.x fun _=>rounds)) (by show (rounds != rounds)=false;simp) ?_;refine ga env (Fe.frm 0 _) aA ?_;by_cases hy:by1=by2
 case neg =>
  refine aH 25 true (e:=.cmp .neq (.x fun _=>by1) (.x fun _=>by2)) (by show (by1 != by2)=true;simpa using hy) ?_;refine ga env (Fe.frm 0 _) aA ?_;refine fa env (Fe.frm 0 _) ?_;intro B' v F;exact⟨by rw[decide_eq_false (fun e=>hy (by injection e))];rfl,F.now.1⟩
 subst hy;refine aH 25 false (e:=.cmp .neq (.x fun _=>by1) (.x fun _=>by1)) (by show (by1 != by1)=false;simp) ?_;refine ga env (Fe.frm 0 _) aA ?_;refine⟨fun q=>?_,fun q=>?_⟩
 ·have e6:¬L.map (·.1)=M.map (·.1):=fun e=>by
   have e:=congrArg List.length e;rw[List.length_map,List.length_map,hn,hn2]at e;have q:((n:Int) != (n2:Int))=true:=q;rw[e,bne_self_eq_false]at q;cases q
  refine ga env (Fe.frm 0 _) aA ?_;refine fa env (Fe.frm 0 _) ?_;intro B' v F;exact⟨by rw[decide_eq_false (fun e=>e6 (by injection e))];rfl,F.now.1⟩
 have hl:n2=n:=by
  have q:((n:Int) != (n2:Int))=false:=q;have q:(n:Int)=(n2:Int):=by simpa using q
  omega
 clear q;subst hl;have hts:decide ((⟨cfg,L.map (·.1),rounds,by1⟩:kN)=⟨cfg,M.map (·.1),rounds,by1⟩)=decide (L.map (·.1)=M.map (·.1)):=by simp
 rw[hts];clear hts;have h:=h.acts;have h2:=h2.acts;refine ga env (Fe.frm 0 _) aA ?_;refine nP (Fe 2 (fun v=>Below w.heap.size w v/\bI v L a n2 c/\bI v M a2 n2 c2)) smL 53 n2 (fun j=>(L.map (·.1)).take j=(M.map (·.1)).take j) rfl (fun B=>⟨rfl,rfl,rfl,trivial⟩) (fun _ _ F=>F.on (Below.refl _ _)) ?_
 intro i J hJ;refine ga env (Fe.frm 2 _) aA ?_;refine⟨fun q=>?_,fun q=>?_⟩
 ·have hlt:i.j<n2:=by simpa [BE.den,cmpB,IE.den] using q
  clear q;have hla:i.j<L.length:=by omega
  have hlb:i.j<M.length:=by omega
  obtain⟨ba,oa,rfl⟩:=h.base hlt;obtain⟨bb,ob,rfl⟩:=h2.base hlt;have hra:=fun v (hv:bI v L (some ⟨ba,oa,none⟩) n2 c)=>hv.range hla;have hrb:=fun v (hv:bI v M (some ⟨bb,ob,none⟩) n2 c2)=>hv.range hlb;have hma:=List.getElem_mem hla;have hmb:=List.getElem_mem hlb;have hnx:=mH i.hp (by rw[List.length_map];exact hla) (by rw[List.length_map];exact hlb);have hne:L[i.j].1≠M[i.j].1->L.map (·.1)≠M.map (·.1):=fun h e=>h (by
   have:=congrArg (fun l=>l[i.j]?) e
   simpa [List.getElem?_eq_getElem hla,List.getElem?_eq_getElem hlb] using this)
  rw[List.getElem_map,List.getElem_map]at hnx;generalize L[i.j]=p at hra hma hnx hne;generalize M[i.j]=q at hrb hmb hnx hne;obtain⟨p,A⟩:=p;obtain⟨q,B⟩:=q;simp only at hra hrb hnx hne;refine ga env (Fe.frm 2 _) aA ?_;refine aKG env (Fe.frm 2 _) [0,1,0,7,15,0,32,0,224,480,1023,2047] [0,1,2,3,4,5,6,7,8,9] [.o 10,.h [11]] (fun v=>bI v L (some ⟨ba,oa,none⟩) n2 c/\bI v M (some ⟨bb,ob,none⟩) n2 c2) (fun _ _ F=>F.now.2) (fun w o h=>⟨h.1.below ((Below.refl _ _).alloc (Nat.le_refl _) o),h.2.below ((Below.refl _ _).alloc (Nat.le_refl _) o)⟩) ?_;refine kS bF ?_;refine nA (.pa fun _=>⟨ba,oa+i.j*19,none⟩) (fun B' v _=>dI (e:=86) (n:=19) rfl Tryz.underlying33 (by kernel_rfl) (by rw[St.aC];rfl) (by rw[St.aC];rfl) hlt) ?_;refine kS bF ?_;refine nA (.g (fK p A)) (fun B' v hv=>eL (cs:=eZ p A) (b:=ba) (off:=oa+i.j*19) rfl (by rw[St.aC];rfl) (hra _ (hv rfl).2.1) Tryz.underlying86 rfl (by kernel_rfl)) ?_;refine kS bF ?_;refine nA (.pa fun _=>⟨bb,ob+i.j*19,none⟩) (fun B' v _=>dI (e:=86) (n:=19) rfl Tryz.underlying33 (by kernel_rfl) (by rw[St.aC];rfl) (by rw[St.aC];rfl) hlt) ?_;refine kS bF ?_;refine nA (.g (fK q B)) (fun B' v hv=>eL (cs:=eZ q B) (b:=bb) (off:=ob+i.j*19) rfl (by rw[St.aC];rfl) (hrb _ (hv rfl).2.2) Tryz.underlying86 rfl (by kernel_rfl)) ?_;refine kS bF ?_;refine⟨rfl,?_⟩;refine ga env (Fe.frm 2 _) aA ?_;intro B' v F;refine(wO p q A B v (F.now.2.1.each _ hma) (F.now.2.2.each _ hmb)).mono ?_;rintro e w2 ⟨rfl,hbw⟩;by_cases hpq:p=q
  ·refine⟨.b (.l true),_,by rw[decide_eq_true hpq];rfl,(Fe.frm 2 _).b,F.on hbw,?_⟩;clear F hbw;refine ga env (Fe.frm 2 _) aA ?_;refine sH hJ hlt (hnx hpq) (fun B=>⟨rfl,rfl,?_,trivial⟩) (fun _ _ h=>h);simp only[AV.den,IE.den,getT];rw[wrI hlt (by omega)]
  ·refine⟨.b (.l false),_,by rw[decide_eq_false hpq];rfl,(Fe.frm 2 _).b,F.on hbw,?_⟩;clear F hbw;rw[decide_eq_false (hne hpq)];refine ga env (Fe.frm 2 _) aA ?_;refine fa env (Fe.frm 2 _) ?_;intro B' v F;exact⟨rfl,F.now.1⟩
 ·have hje:i.j=n2:=by
   have:¬i.j<n2:=by simpa [BE.den,cmpB,IE.den] using q
   have:=i.hj;omega
  have he:=i.hp;rw[List.take_of_length_le (by rw[List.length_map];omega),List.take_of_length_le (by rw[List.length_map];omega)]at he;rw[decide_eq_true he];clear q;refine ga env (Fe.frm 2 _) aA ?_;refine fa env (Fe.frm 2 _) ?_;intro B' v F;exact⟨rfl,F.now.1⟩

theorem aKe {k:Nat}{l m:List Nat}(_:l.length<16777216):frN (frP k l++m)=l.length:=by
 have e:frP k l++m = [102,k,l.length / 65536,l.length / 256 % 256,l.length % 256]++((frP k l++m).drop 5):=by
  unfold frP kY;simp
 rw[e];show be3 (l.length / 65536) (l.length / 256 % 256) (l.length % 256)=l.length;unfold be3;omega
theorem xK (k:Nat)(l:List Nat):(frP k l).length=l.length+8:=by
 rw[frP,lY];simp
theorem aAd {l m:List Nat}(hn:l.length<16777216)(hm:m ≠ []):(qF (frP 6 l++m)).2=false:=by
 have:¬fF (frP 6 l++m):=fun h=>by
  have h2:=h.2;rw[aKe hn,List.length_append,xK]at h2;have:=List.length_pos_iff.2 hm;omega
 unfold qF;rw[if_neg fun h=>this h.1]
def plBo:Nat->Option Pl
 | 6=>some ⟨[0,1,0,7,15,31,63,31,255,511,1023],64,[.h [0,1,2,3,4,5,7],.o 6,.o 8,.h [9,10]],[]⟩
 | _=>none
theorem aMr {Q:Exit->Act->World->Prop}{k8:KB}{n0:Nat}{s:St}{k:List KF}{l r:List Oper}{o:Oper}{x y:Operand}{w0:World}{R:World->Prop}{f m:List Nat}{a a2:Option Addr}{c c2:Nat}
  (hR:∀v,R v->Below w0.heap.size w0 v/\bL v w0.heap.size 5 .u8 (.slice a f.length c) (ints f)/\Bytes v (.slice a2 m.length c2) m) (hf:∀c ∈ f,c<256) (hl:f.length+m.length<=2097152)
  (lv:List (Nat × AV)) (N:Nat) (h:∀(a':Option Addr) (c':Nat) (x:Nat->Value),Ok Tryz.prog Q (Fe 0 (fun u=>Below w0.heap.size w0 u/\Bytes u (.slice a' (f++m).length c') (f++m))) (.ops l r) (St.put ⟨mkT x lv 0 N,[]⟩ o.dst (.sl (fun _=>a') (fun _=>(f++m).length) (fun _=>c'))) k)
  (hlv:∀B,agL B s.tm lv) (hN:s.tm.length=N)
  (ho:o.op = .call { callee:=.builtin .append,args:=#[x,y],argTypes:=#[22,22] }:=by rfl) (hx:s.ev x = .sl (fun _=>a) (fun _=>f.length) (fun _=>c):=by rfl) (hy:s.ev y = .sl (fun _=>a2) (fun _=>m.length) (fun _=>c2):=by rfl) (hg:o.guard=none:=by rfl) :
  bO Tryz.prog Q (Fe n0 R) k8 (.at (.ops l (o::r)) s k):=fun B v F=>by
 obtain⟨g1,g2,g3⟩:=hR v F.now;refine aP Tryz.u8s x y ho w0.heap.size (.slice a f.length c) (.slice a2 m.length c2) (ints f) (ints m) (by rw[St.aC,hx];rfl) (by rw[St.aC,hy];rfl) g2 g3.rd (by decide) (by rw[aF,aF];omega) g1.size hg fun v' w' h1 _ _ _ h5=>?_;obtain⟨a',c',rfl⟩:=h1.shape;rw[<- nB,aF]at h1;have hb:Bytes w' (.slice a' (f++m).length c') (f++m):=Bytes.gE h1 (fun c hc=>(List.mem_append.1 hc).elim (hf c) (g3.lt c)) (by rw[List.length_append];exact hl);have q:=h a' c' (fun j=>(getT s.tm j).den B) B w' (by cases o.dst<;>exact Fe.start fun u bu=>⟨(g1.trans h5).trans (bu.mono (g1.trans h5).size),hb.below bu⟩);simp only[St.cJ]at q;rw[rR (hlv B) hN]at q;rw[<- nB,aF];exact q
def aKD:Prop:=∀w,Calls Tryz.prog 6 #[] w fun e w'=>e = .returned (.bool true)/\Below w.heap.size w w'
theorem tC (HL:aKD)(l m:List Nat)(a1 a2:Option Addr)(c1 c2:Nat)(w:World)(hB:Bytes w (.slice a1 l.length c1) l)(hM:Bytes w (.slice a2 m.length c2) m)(hs:l.length+m.length<=20000) :
  Calls Tryz.prog 4 #[.slice a1 l.length c1,.slice a2 m.length c2] w fun e w'=>e = .returned (.bool true)/\Below w.heap.size w w':=by
 have F0:Fe 0 (fun v=>Below w.heap.size w v/\Bytes v (.slice a1 l.length c1) l/\Bytes v (.slice a2 m.length c2) m) w []:=Fe.start fun _ bv=>⟨bv,hB.below bv,hM.below bv⟩;clear hB hM;refine enter (fun _=>0) [.sl (fun _=>a1) (fun _=>l.length) (fun _=>c1),.sl (fun _=>a2) (fun _=>m.length) (fun _=>c2)] [] Tryz.func4 rfl rfl F0 59 rfl ?_;refine ga env (Fe.frm 0 _) plBo ?_;refine⟨fun q=>?_,fun q=>?_⟩
 ·exfalso;have q:decide (IntKind.i64.wrap ((l.length:Int)+(m.length:Int)) > 20000)=true:=q;rw[show (l.length:Int)+(m.length:Int)=((l.length+m.length:Nat):Int) by omega,cT hs (by decide)]at q;simp only[decide_eq_true_eq]at q;omega
 clear q;refine ga env (Fe.frm 0 _) plBo ?_;intro B v F;refine(pF 6 _ l v F.now.2.1 (by decide) (by omega)).mono ?_;rintro e w2 ⟨v',rfl,hb,hbw,ho⟩;obtain⟨a3,c3,rfl,_⟩:=hb.shape;have hlen:=xK 6 l;have hmore:=@aAd l m (by omega);have hlow:=ho.lower fun g hg=>Nat.le_trans F.now.1.size (ho.lt g hg).1;generalize frP 6 l=f at hb ho hlow hlen hmore ⊢;have hf0:f ≠ []:=fun e=>by rw[e]at hlen;cases hlen
 refine⟨.sl (fun _=>a3) (fun _=>f.length) (fun _=>c3),_,rfl,(Fe.frm 0 _).b,F.step hbw (Z:=fun v=>Bytes v (.slice a3 f.length c3) f/\bL v w.heap.size 5 .u8 (.slice a3 f.length c3) (ints f)) (fun v bv=>⟨hb.below bv,hlow.below bv⟩),?_⟩;clear F hbw hb ho hlow;refine ga env (Fe.frm 0 _) plBo ?_;intro B v F;refine(nE F.now.1.1).mono ?_;rintro e w2 ⟨L,sa,sn,sc,rfl,hs1,hbw⟩;generalize hF:qF f=SO at hs1 ⊢;obtain⟨S,ok⟩:=SO;rcases ok with _|_
 all_goals
  refine⟨.t [.g (jX S sa sn sc),.i .i64 (.l _)],_,rfl,(Fe.frm 0 _).b,F.step hbw (Z:=fun v=>cZ v S L sa sn sc) (fun v bv=>hs1.below bv),?_⟩;clear F hbw hs1;refine ga env (Fe.frm 0 _) plBo ?_;intro B v F;refine(vJ F.now.2.1.1).mono ?_;rintro e w2 ⟨L2,ta,tn,tc,rfl,hs1,hbw⟩;rw[hF]at hs1 ⊢;refine⟨.t [.g (jX S ta tn tc),.b (.l _)],_,rfl,(Fe.frm 1 _).b,F.step hbw (Z:=fun v=>cZ v S L2 ta tn tc) (fun v bv=>hs1.below bv),?_⟩;clear F hbw hs1;refine ga env (Fe.frm 1 _) plBo ?_;intro B v F;obtain⟨rb,_,hv0,_⟩:=F.now.2.2.1.1.blk hf0;refine(vG S L sa sn sc v F.now.2.1 (by omega)).mono ?_;rintro e w2 ⟨L3,ua,uc,rfl,hs1,hbw⟩;refine⟨.g (jX S ua sn uc),_,rfl,(Fe.frm 2 _).b,F.step hbw (Z:=fun v=>cZ v S L3 ua sn uc) (fun v bv=>hs1.below bv),?_⟩;clear F hbw hs1 hv0;refine ga env (Fe.frm 2 _) plBo ?_;intro B v F;have hlt:=F.now.2.2.2.1.1.lt;refine(zY S S L3 L2 ua ta sn tn uc tc v F.now.1 F.now.2.1).mono ?_;rintro e w2 ⟨rfl,hbw⟩;rw[decide_eq_true rfl];refine⟨.b (.l true),_,rfl,(Fe.frm 2 _).b,F.on hbw,?_⟩;clear F hbw;refine ga env (Fe.frm 2 _) plBo ?_;refine aMr (f:=f) (m:=m) (w0:=w) (fun v h=>⟨h.2.2.2.2.1,h.2.2.2.1.2,h.2.2.2.2.2.2⟩) hlt (by omega) [(1,.sl (fun _=>a2) (fun _=>m.length) (fun _=>c2)),(9,.b (.l _))] 61 ?_ (fun B=>⟨rfl,rfl,trivial⟩) rfl;intro a' c' x;refine ga env (Fe.frm 0 _) plBo ?_;intro B v F;refine(nE F.now.2).mono ?_;rintro e w2 ⟨L4,xa,xn,xc,rfl,hs1,hbw⟩;by_cases hm:m = []
  ·subst hm;rw[List.append_nil,hF]at hs1 ⊢;refine⟨.t [.g (jX S xa xn xc),.i .i64 (.l _)],_,rfl,(Fe.frm 0 _).b,F.on hbw,?_⟩;clear F hbw hs1;refine ga env (Fe.frm 0 _) plBo ?_
   try
    refine aIb 58 (.b (.l true)) ?_ (fun B=>by rfl);refine ga env (Fe.frm 0 _) plBo ?_
   intro B v F;refine(HL v).mono ?_;rintro e w2 ⟨rfl,hbw⟩;refine⟨.b (.l true),_,rfl,(Fe.frm 1 _).b,F.on hbw,?_⟩;clear F hbw;refine ga env (Fe.frm 1 _) plBo ?_;refine fa env (Fe.frm 1 _) ?_;intro B v F;exact⟨rfl,F.now.1⟩
  ·have hno:=hmore hm;generalize qF (f++m)=SO at hno hs1 ⊢;obtain⟨S2,ok2⟩:=SO;obtain rfl:ok2=false:=hno;refine⟨.t [.g (jX S2 xa xn xc),.i .i64 (.l 20)],_,rfl,(Fe.frm 0 _).b,F.on hbw,?_⟩;clear F hbw hs1;refine ga env (Fe.frm 0 _) plBo ?_
   try
    refine aIb 58 (.b (.l true)) ?_ (fun B=>by
     show Value.bool (false==((m.length:Int)==0))=Value.bool true;rw[show ((m.length:Int)==0)=false by simpa using hm];rfl)
    refine ga env (Fe.frm 0 _) plBo ?_
   intro B v F;refine(HL v).mono ?_;rintro e w2 ⟨rfl,hbw⟩;refine⟨.b (.l true),_,rfl,(Fe.frm 1 _).b,F.on hbw,?_⟩;clear F hbw;refine ga env (Fe.frm 1 _) plBo ?_;refine fa env (Fe.frm 1 _) ?_;intro B v F;exact⟨rfl,F.now.1⟩
