/- For scbytes_law_holds. -/
import Derived.Test.YtgeihgombjbkbaaGreatSyb22
import Derived.Test.YtgeihgombjbkbaaGreatSyb27
import Derived.Test.YtgeihgombjbkbaaGreatSyb23
set_option maxHeartbeats 16000000
set_option maxRecDepth 100000
namespace Go.Proofs.Own
open Go Go.RowKit
section
variable {P:Program} {tt:TypeId->Option TI} {s:St} {B:Nat->Nat} {w:World}
theorem iG (hT:TTok P tt){o:Oper}{t ft:TypeId}{x:Operand}{j b off k:Nat}{i fi:TI}(ho:o.op = .fieldAddr t x j)(hx:(s.act B).eval x = .pointer (some ⟨b,off,none⟩))(hi:tt t=some i)(hk:getN i.fs j=some (k,ft))(hfi:tt ft=some fi)(hn:(fi.n==0)=false) :
  (execOp (s.act B).eval o).run P w = .ok (.value (.pointer (some ⟨b,off+k,none⟩))) w:=by
 obtain⟨dst,op,ty,pos,after,gd⟩:=o;simp only at ho;subst ho;obtain⟨fs,f,u1,u2,u3,u4⟩:=fld (hT _ _ hi) hk;have hz:fi.n≠0:=by simpa using hn
 simp only[execOp];refine val_run ?_;rw[hx];have hs:=(hT _ _ hfi).sizeOf (w:=w);rw[<- u4]at hs;simp only[Instr.fieldAt,Instr.sureAddr,Sem.run_bind,run_underlying u1,Sem.run_pure,Result.andThen_ok,u2,fieldPlace,hs,if_neg hz,Addr.add_mid,u3]
theorem fB (hT:TTok P tt){o:Oper}{t:TypeId}{x:Operand}{b off:Nat}{i:TI}{v:Value}(ho:o.op = .load t x)(hx:(s.act B).eval x = .pointer (some ⟨b,off,none⟩))(hi:tt t=some i)(ha:i.a=false)(hc:w.cell? ⟨b,off,none⟩=some v) :
  (execOp (s.act B).eval o).run P w = .ok (.value v) w:=by
 obtain⟨dst,op,ty,pos,after,gd⟩:=o;simp only at ho;subst ho;simp only[execOp];refine val_run ?_;rw[hx];have hi:=hT _ _ hi;have:(loadVar t ⟨b,off,none⟩).run P w = .ok v w:=by
  unfold loadVar;rw[Sem.run_bind,hi.agg,Result.andThen_ok,if_neg (by rw[ha];decide),run_load,hc]
 simpa [Instr.loadAt,Instr.sureAddr] using this
theorem iZ (hT:TTok P tt){o:Oper}{t de:TypeId}{dl:Nat}{x ix:Operand}{ei:TI}{l:List AV}{r:AV}{kk:IntKind}{i:Nat}(ho:o.op = .index t x ix)(hu:P.underlying t=some (.array dl de))(hde:tt de=some ei)(hx:s.ev x = .g l)(hi:(s.act B).eval ix = .int kk (i:Int))(hlt:i<dl)
  (hr:(if ei.a then (match cutN l (i*ei.n) ei.n with|some q=>some (AV.g q)|none=>none) else getN l (i*ei.n))=some r):(execOp (s.act B).eval o).run P w = .ok (.value (r.den B)) w:=by
 obtain⟨dst,op,ty,pos,after,gd⟩:=o;simp only at ho;subst ho;simp only[execOp];refine val_run ?_;have hs:=(hT _ _ hde).sizeOf (w:=w);have hp:=part_ok (B:=B) (w:=w) (hT _ _ hde) hr;have h2:(0:Int)<=(i:Int)/\(i:Int)<(dl:Int):=by omega
 rw[hi,St.aB,hx];simp[AV.den,Instr.index,asIntOf,run_underlying hu,h2,hs,hp,hlt]
theorem tN {ps:List (Nat × Nat)}{f:Nat->Option (Nat × Nat)}(hf:∀j p,ps[j]? = some p->f j=some p):∀(l:List (Nat × Operand)) (c q:List AV),fillA ps s c l=some q->Instr.fill f (AV.denL B c).toArray (l.map fun p=>(p.1,(s.act B).eval p.2))=some (AV.denL B q).toArray
 | [],c,q,h=>by cases h;rfl
 | (j,x)::l,c,q,h=>by
  rw[fillA]at h;split at h
  ·rename_i o n hn;split at h
   ·rename_i m hm;split at h
    ·rename_i hc;simp only[Bool.and_eq_true,beq_iff_eq,Nat.ble_eq]at hc;have ih:=tN hf l _ _ h;rw[List.map_cons,Instr.fill];rw[cZ]at hn;have hg:f j=some (o,n):=hf _ _ hn;have hcs:=(AV.cs_den B hm).1;have hl:(AV.denL B m).length=m.length:=by rw[AV.denL_eq,List.length_map]
     have hlc:(AV.denL B c).length=c.length:=by rw[AV.denL_eq,List.length_map]
     simp only[hg,St.aB,hcs];rw[if_neg (by simp only[List.size_toArray,hl,hlc,hc.1,Bool.or_eq_true,decide_eq_true_eq,ne_eq,not_true_eq_false,false_or];omega)];rw[oM hc.2]at ih;have:=foldl_put o (AV.denL B m) 0 (AV.denL B c) (by omega);simp only[St.aB]at ih;rw[<- Array.foldl_toList,Array.toList_zipIdx];simp only[Nat.add_zero]at this;rw[<- ih,<- this]
    ·cases h
   ·cases h
  ·cases h
def plA (n:Nat)(dl:Nat):List (Nat × Nat):=(List.range dl).map fun j=>(j*n,n)
theorem rB (hT:TTok P tt){o:Oper}{t de:TypeId}{dl:Nat}{ps:Array (Nat × Operand)}{i ei:TI}{q:List AV}(ho:o.op = .build t ps)(hu:P.underlying t=some (.array dl de))(hi:tt t=some i)(hde:tt de=some ei)(hl:fillA (plA ei.n dl) s (constL i.z) ps.toList=some q) :
  (execOp (s.act B).eval o).run P w = .ok (.value ((AV.g q).den B)) w:=by
 obtain⟨dst,op,ty,pos,after,gd⟩:=o;simp only at ho;subst ho;have ty:=hT _ _ hi;obtain⟨qq,hq1,_⟩:=ty.info;obtain⟨z,hz1,hz2⟩:=ty.zero;rw[hq1]at hz1;have hz3:qq.zero=some z:=hz1;obtain⟨qe,he1,he2⟩:=(hT _ _ hde).info;have hf:=tN (B:=B) (s:=s) (f:=fun i=>some (i*qe.size,qe.size)) (fun j p hp=>by
  unfold plA at hp;rw[List.getElem?_map]at hp;obtain⟨a,ha,rfl⟩:=Option.map_eq_some_iff.1 hp;have:a=j:=by
   have:=List.getElem?_eq_some_iff.1 ha;obtain⟨h1,h2⟩:=this;rw[List.getElem_range]at h2;exact h2.symm
  rw[this,he2]) ps.toList _ _ hl
 rw[iX]at hf;simp only[execOp];refine val_run (run_build w t _ _ ?_);unfold Program.built;rw[hq1,hu];simp only[hz3,he1];rw[hz2];rw[<- hf]
 congr 1
 simp
end
end Go.Proofs.Own
namespace Go.Proofs.YtgeihgombjbkbaaGreat
open Go.RowKit Go.Maps Go.Proofs.Own

abbrev RS:=List Nat × Bool
def nS (m:Nat)(s:RS):RS:=(fT m s.1,s.2 || mM m s.1)
def iS (s:RS):RS:=(yK s.1,s.2 || aH5 s.1)
def HZ:Nat:=1125899906842624
def ALL:Nat:=18446744073709551615
def prS (m1 m2:Nat):Nat->RS->List aO × RS
 | 0,s=>([],s)
 | n+1,s=>(⟨aF m1 s.1,aF m2 (nS m1 s).1⟩::(prS m1 m2 n (nS m2 (nS m1 s))).1,(prS m1 m2 n (nS m2 (nS m1 s))).2)
theorem sB (m1 m2:Nat):∀n s,(prS m1 m2 n s).1.length=n
 | 0,_=>rfl
 | n+1,s=>by rw[prS,List.length_cons,sB m1 m2 n]
def spS (s:RS):List aO × RS:=prS HZ HZ (aF 32 s.1) (nS 32 s)
def jK (s:RS):fC × RS:=(⟨iY s.1,(spS (iS s)).1,(spS (spS (iS s)).2).1⟩,(spS (spS (iS s)).2).2)
def dR:fC:=⟨0,[],[]⟩
def gX (s:RS):fC × RS × Bool:=if (jK s).2.2=true\/bV (jK s).1≠0 then (dR,([],true),false) else ((jK s).1,(jK s).2,true)
def lvS (s:RS):List aO × RS:=prS HZ 7 (aF 6 s.1) (nS 6 s)
def jL (s:RS):fS × RS:=(⟨aF 7 s.1,(lvS (nS 7 s)).1,aF 8 (lvS (nS 7 s)).2.1,aF 1048576 (nS 8 (lvS (nS 7 s)).2).1⟩,nS 1048576 (nS 8 (lvS (nS 7 s)).2))
def dS:fS:=⟨0,[],0,0⟩
def gL (s:RS):fS × RS × Bool:=if (jL s).2.2=true\/dW (jL s).1=false then (dS,([],true),false) else ((jL s).1,(jL s).2,true)
def Rz (b rb:Nat)(t:RS)(u:World):Prop:=bF u b rb t.1 t.2
theorem jY {b rb:Nat}{t:RS}{w:World}(h:bF w b rb t.1 t.2)(U:Nat->Prop)(h1:¬U b)(h2:¬U rb):Sf U w (Rz b rb t):=fun _ ku=>h.kept ku h1 h2
theorem jP {n m:Nat}(h:n<=m)(hm:(m:Int)<9223372036854775808):IntKind.i64.wrap (n:Int)=n:=by
 simp only[IntKind.wrap,IntKind.bits,IntKind.signed];simp;omega
theorem wrU {n:Nat}(h:(n:Int)<18446744073709551616):IntKind.u64.wrap (n:Int)=n:=by
 rw[wrap_u64];omega
structure PI (m1 m2 n:Nat)(t0:RS) where
 j:Nat
 a:Option Addr
 c:Nat
 L:List aO
 t:RS
 x:Nat->Value
 hj:j<=n
 hL:L.length=j
 inv:(L++(prS m1 m2 (n-j) t).1,(prS m1 m2 (n-j) t).2)=prS m1 m2 n t0
def PI.zero (m1 m2 n:Nat)(t0:RS)(x:Nat->Value):PI m1 m2 n t0:=⟨0,none,0,[],t0,x,Nat.zero_le _,rfl,rfl⟩
def PI.next {m1 m2 n:Nat}{t0:RS}(i:PI m1 m2 n t0)(h:i.j<n)(a:Option Addr)(c:Nat)(x:Nat->Value):PI m1 m2 n t0:=⟨i.j+1,a,c,i.L ++ [⟨aF m1 i.t.1,aF m2 (nS m1 i.t).1⟩],nS m2 (nS m1 i.t),x,h,by rw[List.length_append,i.hL];rfl,by
 have:=i.inv;rw[show n-i.j=(n-(i.j+1))+1 by omega,prS]at this;rw[<- this];simp⟩
theorem PI.last {m1 m2 n:Nat}{t0:RS}(i:PI m1 m2 n t0)(h:i.j=n):i.L=(prS m1 m2 n t0).1/\i.t=(prS m1 m2 n t0).2:=by
 have:=i.inv;rw[show n-i.j=0 by omega,prS,List.append_nil]at this;rw[<- this];exact⟨rfl,rfl⟩
section
variable {b rb:Nat} {w0:World} {R:World->Prop} {e:TypeId} {sz:Nat} {v:Value} {rs:List (List Value)} {Q:Exit->Act->World->Prop} {k8:KB} {s:St} {k:List KF} {c:Cf} {dst:Option Tmp} {t:RS}
theorem dP (m:Nat)(M:Int)(hM:M=(m:Int))(hm:(m:Int)<18446744073709551616)(h:Ok Tryz.prog Q (FrD b rb w0 R (Rz b rb (nS m t)) e sz v rs) c (s.put dst (.i .u64 (.x fun _=>(aF m t.1:Nat)))) k) :
  bE Tryz.prog Q (FrD b rb w0 R (Rz b rb t) e sz v rs) k8 (.call 23 [.pa (fun _=>⟨b,0,none⟩),.i .u64 (.l M)] dst c s k):=fun B w F=>by
 subst hM;refine(oO b m t.1 t.2 w F.z (by omega) hm).mono ?_;rintro e w' ⟨rfl,h1,h2⟩;rw[Int.toNat_natCast]at *
 exact⟨_,_,rfl,fd.b,F.rd h2 (jY (t:=nS m t) h1),h⟩
theorem xG (h:Ok Tryz.prog Q (FrD b rb w0 R (Rz b rb (iS t)) e sz v rs) c (s.put dst (.i .i64 (.x fun _=>iY t.1))) k) :
  bE Tryz.prog Q (FrD b rb w0 R (Rz b rb t) e sz v rs) k8 (.call 24 [.pa (fun _=>⟨b,0,none⟩)] dst c s k):=fun B w F=>by
 refine(aIF b t.1 t.2 w F.z).mono ?_;rintro e w' ⟨rfl,h1,h2⟩;exact⟨_,_,rfl,fd.b,F.rd h2 (jY (t:=iS t) h1),h⟩
theorem oN (h:Ok Tryz.prog Q (FrD b rb w0 R (Rz b rb ([],true)) e sz v rs) c (s.put dst (.t [])) k) :
  bE Tryz.prog Q (FrD b rb w0 R (Rz b rb t) e sz v rs) k8 (.call 75 [.pa (fun _=>⟨b,0,none⟩)] dst c s k):=fun B w F=>by
 refine(dB b t.1 t.2 w F.z).mono ?_;rintro e w' ⟨rfl,h1,h2⟩;exact⟨_,_,rfl,fd.b,F.rd h2 (jY (t:=([],true)) h1),h⟩
theorem aIC (h:Ok Tryz.prog Q (FrD b rb w0 R (Rz b rb t) e sz v rs) c (s.put dst (.b (.x fun _=>t.2))) k) :
  bE Tryz.prog Q (FrD b rb w0 R (Rz b rb t) e sz v rs) k8 (.call 25 [.pa (fun _=>⟨b,0,none⟩)] dst c s k):=fun B w F=>by
 refine(aID b t.1 t.2 w F.z).mono ?_;rintro e w' ⟨rfl,rfl⟩;exact⟨_,_,rfl,fd.b,F,h⟩
end
theorem qQ:cM Tryz.prog 66 324 2 16:=by
 obtain⟨i0,hi,hz0,hz1,hz2⟩:=info_parts (show (Tryz.prog.info? 324).map (fun i=>(i.zero,i.size,i.bytes))=some (some (.agg #[.int .i64 0,.int .i64 0]),2,16) by kernel_rfl);exact⟨Tryz.underlying66,⟨i0,_,hi,hz0,hz1,hz2,rfl⟩,by decide,by decide⟩
theorem vW:cM Tryz.prog 69 275 2 16:=by
 obtain⟨i0,hi,hz0,hz1,hz2⟩:=info_parts (show (Tryz.prog.info? 275).map (fun i=>(i.zero,i.size,i.bytes))=some (some (.agg #[.int .i64 0,.int .i64 0]),2,16) by kernel_rfl);exact⟨Tryz.underlying69,⟨i0,_,hi,hz0,hz1,hz2,rfl⟩,by decide,by decide⟩
end Go.Proofs.YtgeihgombjbkbaaGreat
namespace Go.Proofs.YtgeihgombjbkbaaGreat
open Go.RowKit Go.Maps Go.Proofs.Own

def aA:Nat->Option Pl:=fun _=>none
theorem nN (t:RS):(spS t).1.length<=32:=by
 unfold spS;rw[sB];exact aU _ _
def wP (b rb:Nat)(t:RS)(w:World):Ending->World->Prop:=fun e w'=>∃wa wc ca cc,e = .returned (.tuple #[.agg #[.int .i64 (gX t).1.o,.slice wa (gX t).1.w.length wc,.slice ca (gX t).1.c.length cc],.bool (gX t).2.2])/\Sf (fun k=>k<w.heap.size) w' (fun u=>cE u (gX t).1 wa (gX t).1.w.length wc ca (gX t).1.c.length cc)/\bF w' b rb (gX t).2.1.1 (gX t).2.1.2/\Kept w w' (fun k=>k=b)
theorem cE.zero (w:World):cE w dR none 0 0 none 0 0:=⟨aM.nil _ _,aM.nil _ _,rfl,rfl,by decide,by decide⟩

def yB {m1 m2 n:Nat}{t0:RS}(b kk N:Nat)(i:PI m1 m2 n t0):List (Nat × AV):=[(0,.pa (fun _=>⟨b,0,none⟩)),(2,.p 0 0),(3,.b (.l false)),(4,.p 1 0),(6,.p 1 (kk+1)),(14,.g [.p 1 1,.p 1 2]),(15,.i .i64 (.l kk)),(19,.i .u64 (.x fun _=>(N:Nat))),(20,.i .u64 (.x fun _=>(i.j:Int)))]
theorem rT {b rb:Nat}{w:World}{t:RS}(h:bF w b rb t.1 t.2)(hr:rb<w.heap.size):Calls Tryz.prog 121 #[.pointer (some ⟨b,0,none⟩)] w (wP b rb t w):=by
 have F0:FrD b rb w (fun _=>True) (Rz b rb t) 324 2 (.slice none 0 0) [] w []:=FrD.start w h.lt hr _ _ (Sf.all _ _) fun u bu=>h.below bu;refine enter (F:=FrD b rb w (fun _=>True) (Rz b rb t) 324 2 (.slice none 0 0) []) (fun _=>0) [.pa (fun _=>⟨b,0,none⟩)] [] Tryz.func121 rfl rfl F0 54 rfl ?_;clear F0 h;refine ga env fd aA ?_;refine xG ?_;refine ga env fd aA ?_;refine aK (.g [.p 1 1,.p 1 2]) (fun B v F=>rB aH rfl Tryz.underlying322 rfl rfl rfl) ?_;refine ga env fd aA ?_;refine vK 3 fun J0 hJ0=>?_;refine ga env fd aA ?_;refine aK (.p 1 1) (fun B v F=>iZ aH (i:=0) rfl Tryz.underlying322 rfl rfl (by rw[St.aB];rfl) (by decide) rfl) ?_;refine ga env fd aA ?_;refine dP 32 _ rfl (by decide) ?_;refine ga env fd aA ?_;have hN0:aF 32 (iS t).1<=32:=aU _ _;have hs0:spS (iS t)=prS HZ HZ (aF 32 (iS t).1) (nS 32 (iS t)):=rfl;generalize hn0:aF 32 (iS t).1=N0 at hN0 hs0 ⊢;generalize nS 32 (iS t)=s0 at hs0 ⊢;clear hn0;refine iH (fun i:PI HZ HZ N0 s0=>FrD b rb w (fun _=>True) (Rz b rb i.t) 324 2 (.slice i.a i.j i.c) (i.L.map spV)) (fun i=>⟨mkT i.x (yB b 0 N0 i) 0 55,[[.i .i64 (.l 0),.v (.slice none 0 0),.v (.slice none 0 0)],[.i .i64 (.x fun _=>iY t.1),.sl (fun _=>i.a) (fun _=>i.j) (fun _=>i.c),.v (.slice none 0 0)]]⟩) (fun i=>N0-i.j) 55 (fun B w1 F=>?_) ?_
 ·exact⟨PI.zero _ _ _ _ _,yB b 0 N0 (PI.zero HZ HZ N0 s0 fun _=>undef),rfl,⟨rfl,rfl,rfl,rfl,rfl,rfl,rfl,rfl,rfl,trivial⟩,F⟩
 intro i J hJ;refine ga env fd aA ?_;refine⟨fun q=>?_,fun q=>?_⟩
 ·have hlt:i.j<N0:=by simpa [BE.den,cmpB,IE.den] using q
  clear q;refine ga env fd aA ?_;refine dP HZ _ rfl (by decide) ?_;refine ga env fd aA ?_;refine dP HZ _ rfl (by decide) ?_;refine ga env fd aA ?_;have hlen:(i.L.map spV).length=i.j:=by rw[List.length_map,i.hL]
  refine aAo qQ hlen (Nat.le_trans (Nat.le_of_lt hlt) (Nat.le_trans hN0 (by decide))) ?_;intro a' g c';refine ga env fd aA ?_;refine jT 55 hJ (fun B v F=>?_);refine⟨i.next hlt a' c' _,yB b 0 N0 (i.next hlt a' c' fun _=>undef),by show N0-(i.j+1)<N0-i.j;omega,rfl,⟨rfl,rfl,rfl,rfl,rfl,rfl,rfl,rfl,?_,trivial⟩,?_⟩
  ·simp only[AV.den,IE.den,getT];rw[show ((i.j:Nat):Int)+1=((i.j+1:Nat):Int) from rfl,wrU (by omega)];rfl
  ·have e:(i.next hlt a' c' (fun _=>undef)).L.map spV=i.L.map spV ++ [AV.denL (fun _=>0) [.i .i64 (.cv .i64 (.x fun _=>(aF HZ i.t.1:Nat))),.i .i64 (.cv .i64 (.x fun _=>(aF HZ (nS HZ i.t).1:Nat)))]]:=by
    simp only[PI.next,List.map_append,List.map_cons,List.map_nil,spV,AV.denL,AV.den,IE.den];rw[jP (aU HZ _) (by decide),jP (aU HZ _) (by decide)]
   show FrD b rb w (fun _=>True) (Rz b rb (nS HZ (nS HZ i.t))) 324 2 (.slice a' (i.j+1) c') ((i.next hlt a' c' (fun _=>undef)).L.map spV) v _;rw[e];exact F
 have hje:i.j=N0:=by
  have:¬i.j<N0:=by simpa [BE.den,cmpB,IE.den] using q
  have:=i.hj;omega
 clear q hJ;obtain⟨hl0,ht0⟩:=i.last hje;rw[<- hs0]at hl0 ht0;have hjl:=i.hL;rw[ht0,hl0,<- hjl,hl0];generalize i.a=a0;generalize i.c=c0

 clear hl0 ht0 hjl hje hs0 hN0;refine ga env fd aA ?_;refine dK hJ0 fun J1 hJ1=>?_;refine jF (fun v L F=>F.qN 324 2) ?_;refine ga env fd aA ?_;refine aK (.p 1 2) (fun B v F=>iZ aH (i:=1) rfl Tryz.underlying322 rfl rfl (by rw[St.aB];rfl) (by decide) rfl) ?_;refine ga env fd aA ?_;refine dP 32 _ rfl (by decide) ?_;refine ga env fd aA ?_;have hN1:aF 32 (spS (iS t)).2.1<=32:=aU _ _;have hs1:spS (spS (iS t)).2=prS HZ HZ (aF 32 (spS (iS t)).2.1) (nS 32 (spS (iS t)).2):=rfl;generalize hn1:aF 32 (spS (iS t)).2.1=N1 at hN1 hs1 ⊢;generalize nS 32 (spS (iS t)).2=s1 at hs1 ⊢;clear hn1;refine iH (fun i:PI HZ HZ N1 s1=>FrD b rb w (fun u=>dZ u w.heap.size 324 2 (.slice a0 (spS (iS t)).1.length c0) ((spS (iS t)).1.map spV)/\True) (Rz b rb i.t) 324 2 (.slice i.a i.j i.c) (i.L.map spV)) (fun i=>⟨mkT i.x (yB b 1 N1 i) 0 55,[[.i .i64 (.l 0),.v (.slice none 0 0),.v (.slice none 0 0)],[.i .i64 (.x fun _=>iY t.1),.sl (fun _=>a0) (fun _=>(spS (iS t)).1.length) (fun _=>c0),.sl (fun _=>i.a) (fun _=>i.j) (fun _=>i.c)]]⟩) (fun i=>N1-i.j) 55 (fun B w1 F=>?_) ?_
 ·exact⟨PI.zero _ _ _ _ _,yB b 1 N1 (PI.zero HZ HZ N1 s1 fun _=>undef),rfl,⟨rfl,rfl,rfl,rfl,rfl,rfl,rfl,rfl,rfl,trivial⟩,F⟩
 intro i J hJ;refine ga env fd aA ?_;refine⟨fun q=>?_,fun q=>?_⟩
 ·have hlt:i.j<N1:=by simpa [BE.den,cmpB,IE.den] using q
  clear q;refine ga env fd aA ?_;refine dP HZ _ rfl (by decide) ?_;refine ga env fd aA ?_;refine dP HZ _ rfl (by decide) ?_;refine ga env fd aA ?_;have hlen:(i.L.map spV).length=i.j:=by rw[List.length_map,i.hL]
  refine aAo qQ hlen (Nat.le_trans (Nat.le_of_lt hlt) (Nat.le_trans hN1 (by decide))) ?_;intro a' g c';refine ga env fd aA ?_;refine jT 55 hJ (fun B v F=>?_);refine⟨i.next hlt a' c' _,yB b 1 N1 (i.next hlt a' c' fun _=>undef),by show N1-(i.j+1)<N1-i.j;omega,rfl,⟨rfl,rfl,rfl,rfl,rfl,rfl,rfl,rfl,?_,trivial⟩,?_⟩
  ·simp only[AV.den,IE.den,getT];rw[show ((i.j:Nat):Int)+1=((i.j+1:Nat):Int) from rfl,wrU (by omega)];rfl
  ·have e:(i.next hlt a' c' (fun _=>undef)).L.map spV=i.L.map spV ++ [AV.denL (fun _=>0) [.i .i64 (.cv .i64 (.x fun _=>(aF HZ i.t.1:Nat))),.i .i64 (.cv .i64 (.x fun _=>(aF HZ (nS HZ i.t).1:Nat)))]]:=by
    simp only[PI.next,List.map_append,List.map_cons,List.map_nil,spV,AV.denL,AV.den,IE.den];rw[jP (aU HZ _) (by decide),jP (aU HZ _) (by decide)]
   show FrD b rb w (fun u=>dZ u w.heap.size 324 2 (.slice a0 (spS (iS t)).1.length c0) ((spS (iS t)).1.map spV)/\True) (Rz b rb (nS HZ (nS HZ i.t))) 324 2 (.slice a' (i.j+1) c') ((i.next hlt a' c' (fun _=>undef)).L.map spV) v _;rw[e];exact F
 have hje:i.j=N1:=by
  have:¬i.j<N1:=by simpa [BE.den,cmpB,IE.den] using q
  have:=i.hj;omega
 clear q hJ;obtain⟨hl1,ht1⟩:=i.last hje;rw[<- hs1]at hl1 ht1;have hjl:=i.hL;rw[ht1,hl1,<- hjl,hl1];generalize i.a=a1;generalize i.c=c1

 clear hl1 ht1 hjl hje hs1 hN1;refine ga env fd aA ?_;refine dK hJ1 fun J2 hJ2=>?_;clear hJ0 hJ1 hJ2;refine ga env fd aA ?_;refine aIC ?_;refine ga env fd aA ?_;cases hbd:(spS (spS (iS t)).2).2.2 with
 | true =>
  have hR:gX t=(dR,([],true),false):=if_pos (.inl hbd);refine aI 46 true rfl ?_;refine ga env fd aA ?_;refine oN ?_;refine ga env fd aA ?_;refine fa env fd ?_;intro B v F;unfold wP;rw[hR];exact⟨none,0,none,0,rfl,fun u _=>cE.zero u,F.z,F.kept⟩
 | false =>
  refine aI 46 false rfl ?_;refine ga env fd aA ?_;intro B v F;refine(kQ (jK t).1 a0 _ c0 a1 _ c1 v ⟨aM.fU F.now.1,aM.fU F.own,rfl,rfl,Nat.le_trans (nN _) (by decide),Nat.le_trans (nN _) (by decide)⟩).mono ?_;rintro e w5 ⟨rfl,hb⟩;refine⟨.i .i64 (.x fun _=>bV (jK t).1),_,rfl,fd.b,F.call hb,?_⟩;clear F hb;refine ga env fd aA ?_;refine⟨fun q=>?_,fun q=>?_⟩
  ·have hne:bV (jK t).1≠0:=by simpa [BE.den,cmpB,IE.den] using q
   have hR:gX t=(dR,([],true),false):=if_pos (.inr hne);clear q;refine ga env fd aA ?_;refine oN ?_;refine ga env fd aA ?_;refine fa env fd ?_;intro B v F;unfold wP;rw[hR];exact⟨none,0,none,0,rfl,fun u _=>cE.zero u,F.z,F.kept⟩
  ·have heq:bV (jK t).1=0:=by simpa [BE.den,cmpB,IE.den] using q
   have hR:gX t=((jK t).1,(jK t).2,true):=if_neg (fun h=>h.elim (fun h=>by have h:(spS (spS (iS t)).2).2.2=true:=h;rw[hbd]at h;cases h) fun h=>h heq);clear q;refine ga env fd aA ?_;refine fa env fd ?_;intro B v F;unfold wP;rw[hR];have F:=F.qN 324 2;exact⟨a0,c0,a1,c1,rfl,F.old.imp fun u h=>⟨aM.fU h.2.1,aM.fU h.1,rfl,rfl,Nat.le_trans (nN _) (by decide),Nat.le_trans (nN _) (by decide)⟩,F.z,F.kept⟩

def plRt:Nat->Option Pl
 | 6=>some ⟨[0,1,0,0,8,28,60,127,255,511],48,[.h [0,1,2,3],.o 4,.h [5],.o 6,.o 7,.h [8],.o 9],[]⟩
 | _=>none

def wQ (b rb:Nat)(t:RS)(w:World):Ending->World->Prop:=fun e w'=>∃la lc,e = .returned (.tuple #[.agg #[.int .i64 (gL t).1.c,.slice la (gL t).1.l.length lc,.int .i64 (gL t).1.r,.int .i64 (gL t).1.b],.bool (gL t).2.2])/\Sf (fun k=>k<w.heap.size) w' (fun u=>cF u (gL t).1 la (gL t).1.l.length lc)/\bF w' b rb (gL t).2.1.1 (gL t).2.1.2/\Kept w w' (fun k=>k=b)
theorem cF.zero (w:World):cF w dS none 0 0:=⟨aM.nil _ _,rfl,by decide⟩
theorem xC (t:RS):(lvS t).1.length<=6:=by
 unfold lvS;rw[sB];exact aU _ _
theorem wD {b rb bx:Nat}{w:World}{t:RS}(h:bF w b rb t.1 t.2)(hr:rb<w.heap.size)(hx:w.cell? ⟨bx,0,none⟩=some (.pointer (some ⟨b,0,none⟩)))(hne:bx≠b)(m:Nat)(M:Int)(hM:M=(m:Int))(hm:(m:Int)<9223372036854775808) :
  Calls Tryz.prog 182 #[.int .u64 M,.pointer (some ⟨bx,0,none⟩)] w fun e w'=>e = .returned (.int .i64 (aF m t.1:Nat))/\bF w' b rb (nS m t).1 (nS m t).2/\Kept w w' (fun k=>k=b):=by
 have F0:FrD b rb w (fun _=>True) (Rz b rb t) 324 2 (.slice none 0 0) [] w []:=FrD.start w h.lt hr _ _ (Sf.all _ _) fun u bu=>h.below bu;refine enter (F:=FrD b rb w (fun _=>True) (Rz b rb t) 324 2 (.slice none 0 0) []) (fun _=>0) [.i .u64 (.l M),.pa (fun _=>⟨bx,0,none⟩)] [] Tryz.func182 rfl rfl F0 6 rfl ?_;clear F0 h;refine ga env fd aA ?_;refine aK (.pa fun _=>⟨b,0,none⟩) (fun B v F=>fB (b:=bx) (off:=0) aH rfl (by rw[St.aB];rfl) rfl rfl (F.kept.cell hx hne)) ?_;refine ga env fd aA ?_;refine dP m M hM (by omega) ?_;refine ga env fd aA ?_;refine fa env fd ?_;intro B v F;refine⟨?_,F.z,F.kept⟩;simp only[resV,AV.den,IE.den];rw[jP (aU m _) hm]
section
variable {b rb:Nat} {w0:World} {R:World->Prop} {e:TypeId} {sz:Nat} {v:Value} {rs:List (List Value)} {Q:Exit->Act->World->Prop} {k8:KB} {s:St} {k:List KF} {c:Cf} {dst:Option Tmp} {t:RS}
theorem mO (m:Nat)(M:Int)(hM:M=(m:Int))(hm:(m:Int)<9223372036854775808)(h:Ok Tryz.prog Q (FrD b rb w0 R (Rz b rb (nS m t)) e sz v rs) c (s.put dst (.i .i64 (.x fun _=>(aF m t.1:Nat)))) k)(hs:s.bx[0]? = some [.pa (fun _=>⟨b,0,none⟩)]:=by rfl) :
  bE Tryz.prog Q (FrD b rb w0 R (Rz b rb t) e sz v rs) k8 (.call 182 [.i .u64 (.l M),.p 0 0] dst c s k):=fun B w F=>by
 have hm0:(mkB B 0 s.bx)[0]? = some (B 0,[.pointer (some ⟨b,0,none⟩)]):=by rw[fJ,hs];rfl
 have hbx:=F.box 0 _ hm0;refine(wD F.z F.lt.2 (hbx.2 0 _ rfl).1 (F.rng _ (List.mem_map.2 ⟨_,List.mem_of_getElem? hm0,rfl⟩)).2.1 m M hM hm).mono ?_;rintro e w' ⟨rfl,h1,h2⟩;exact⟨_,_,rfl,fd.b,F.rd h2 (jY (t:=nS m t) h1),h⟩
end
def aLV {m1 m2 n:Nat}{t0:RS}(b N:Nat)(i:PI m1 m2 n t0):List (Nat × AV):=[(0,.pa (fun _=>⟨b,0,none⟩)),(1,.p 0 0),(2,.p 1 0),(3,.b (.l false)),(4,.f (.func 182) [] [.p 0 0]),(5,.p 2 0),(12,.i .i64 (.x fun _=>(N:Nat))),(13,.i .i64 (.x fun _=>(i.j:Int)))]
theorem rX {b rb:Nat}{w:World}{t:RS}(h:bF w b rb t.1 t.2)(hr:rb<w.heap.size):Calls Tryz.prog 122 #[.pointer (some ⟨b,0,none⟩)] w (wQ b rb t w):=by
 have F0:FrD b rb w (fun _=>True) (Rz b rb t) 275 2 (.slice none 0 0) [] w []:=FrD.start w h.lt hr _ _ (Sf.all _ _) fun u bu=>h.below bu;refine enter (F:=FrD b rb w (fun _=>True) (Rz b rb t) 275 2 (.slice none 0 0) []) (fun _=>0) [.pa (fun _=>⟨b,0,none⟩)] [] Tryz.func122 rfl rfl F0 47 rfl ?_;clear F0 h;refine ga env fd plRt ?_;refine mO 7 _ rfl (by decide) ?_;refine ga env fd plRt ?_;refine mO 6 _ rfl (by decide) ?_;refine ga env fd plRt ?_;have hN:aF 6 (nS 7 t).1<=6:=aU _ _;have hs:lvS (nS 7 t)=prS HZ 7 (aF 6 (nS 7 t).1) (nS 6 (nS 7 t)):=rfl;generalize hn:aF 6 (nS 7 t).1=N at hN hs ⊢;generalize nS 6 (nS 7 t)=s at hs ⊢;clear hn;refine iH (fun i:PI HZ 7 N s=>FrD b rb w (fun _=>True) (Rz b rb i.t) 275 2 (.slice i.a i.j i.c) (i.L.map spV)) (fun i=>⟨mkT i.x (aLV b N i) 0 48,[[.pa (fun _=>⟨b,0,none⟩)],[.i .i64 (.l 0),.v (.slice none 0 0),.i .i64 (.l 0),.i .i64 (.l 0)],[.i .i64 (.x fun _=>(aF 7 t.1:Nat)),.sl (fun _=>i.a) (fun _=>i.j) (fun _=>i.c),.i .i64 (.l 0),.i .i64 (.l 0)]]⟩) (fun i=>N-i.j) 48 (fun B w1 F=>?_) ?_
 ·exact⟨PI.zero _ _ _ _ _,aLV b N (PI.zero HZ 7 N s fun _=>undef),rfl,⟨rfl,rfl,rfl,rfl,rfl,rfl,rfl,rfl,trivial⟩,F⟩
 intro i J hJ;refine ga env fd plRt ?_;refine⟨fun q=>?_,fun q=>?_⟩
 ·have hlt:i.j<N:=by simpa [BE.den,cmpB,IE.den] using q
  clear q;refine ga env fd plRt ?_;refine mO HZ _ rfl (by decide) ?_;refine ga env fd plRt ?_;refine mO 7 _ rfl (by decide) ?_;refine ga env fd plRt ?_;have hlen:(i.L.map spV).length=i.j:=by rw[List.length_map,i.hL]
  refine mG vW hlen (Nat.le_trans (Nat.le_of_lt hlt) (Nat.le_trans hN (by decide))) ?_;intro a' g c';refine ga env fd plRt ?_;refine jT 48 hJ (fun B v F=>?_);refine⟨i.next hlt a' c' _,aLV b N (i.next hlt a' c' fun _=>undef),by show N-(i.j+1)<N-i.j;omega,rfl,⟨rfl,rfl,rfl,rfl,rfl,rfl,rfl,?_,trivial⟩,?_⟩
  ·simp only[AV.den,IE.den,getT];rw[show ((i.j:Nat):Int)+1=((i.j+1:Nat):Int) from rfl,jP (Nat.le_refl _) (by omega)];rfl
  ·have e:(i.next hlt a' c' (fun _=>undef)).L.map spV=i.L.map spV ++ [AV.denL (fun _=>0) [.i .i64 (.x fun _=>(aF HZ i.t.1:Nat)),.i .i64 (.x fun _=>(aF 7 (nS HZ i.t).1:Nat))]]:=by
    simp only[PI.next,List.map_append,List.map_cons,List.map_nil,spV,AV.denL,AV.den,IE.den]
   show FrD b rb w (fun _=>True) (Rz b rb (nS 7 (nS HZ i.t))) 275 2 (.slice a' (i.j+1) c') ((i.next hlt a' c' (fun _=>undef)).L.map spV) v _;rw[e];exact F
 have hje:i.j=N:=by
  have:¬i.j<N:=by simpa [BE.den,cmpB,IE.den] using q
  have:=i.hj;omega
 clear q hJ;obtain⟨hl,ht⟩:=i.last hje;rw[<- hs]at hl ht;have hjl:=i.hL;rw[ht,hl,<- hjl,hl];generalize i.a=a0;generalize i.c=c0;clear hl ht hjl hje hs hN;refine ga env fd plRt ?_;refine mO 8 _ rfl (by decide) ?_;refine ga env fd plRt ?_;refine mO 1048576 _ rfl (by decide) ?_;refine ga env fd plRt ?_;refine aIC ?_;refine ga env fd plRt ?_;cases hbd:(nS 1048576 (nS 8 (lvS (nS 7 t)).2)).2 with
 | true =>
  have hR:gL t=(dS,([],true),false):=if_pos (.inl hbd);refine aI 39 true rfl ?_;refine ga env fd plRt ?_;refine oN ?_;refine ga env fd plRt ?_;refine fa env fd ?_;intro B v F;unfold wQ;rw[hR];exact⟨none,0,rfl,fun u _=>cF.zero u,F.z,F.kept⟩
 | false =>
  refine aI 39 false rfl ?_;refine ga env fd plRt ?_;intro B v F;have hk:cF v (jL t).1 a0 (lvS (nS 7 t)).1.length c0:=⟨aM.fU F.own,rfl,Nat.le_trans (xC _) (by decide)⟩;have hc:=kR (jL t).1 a0 _ c0 v hk;refine hc.mono ?_;rintro e w5 ⟨rfl,hb⟩;refine⟨.i .i64 (.x fun _=>(if dW (jL t).1 then (0:Int) else 2)),_,rfl,fd.b,F.call hb,?_⟩;clear F hb;refine ga env fd plRt ?_;cases hok:dW (jL t).1 with
  | false =>
   have hR:gL t=(dS,([],true),false):=if_pos (.inr hok);refine⟨fun q=>?_,fun q=>absurd q (by simp[BE.den,cmpB,IE.den])⟩;refine ga env fd plRt ?_;refine oN ?_;refine ga env fd plRt ?_;refine fa env fd ?_;intro B v F;unfold wQ;rw[hR];exact⟨none,0,rfl,fun u _=>cF.zero u,F.z,F.kept⟩
  | true =>
   have hR:gL t=((jL t).1,(jL t).2,true):=if_neg (fun h=>h.elim (fun h=>by have h:(nS 1048576 (nS 8 (lvS (nS 7 t)).2)).2=true:=h;rw[hbd]at h;cases h) fun h=>by rw[hok]at h;cases h);refine⟨fun q=>absurd q (by simp[BE.den,cmpB,IE.den]),fun q=>?_⟩;refine ga env fd plRt ?_;refine fa env fd ?_;intro B v F;unfold wQ;rw[hR];have F:=F.qN 275 2;refine⟨a0,c0,?_,F.old.imp fun u h=>⟨aM.fU h.1,rfl,Nat.le_trans (xC _) (by decide)⟩,F.z,F.kept⟩;rfl

def cW (k:Int):Bool:=decide (1<=k)&&decide (k<=12)
def idB (k:Int):Bool:=cW k && !(k==1) && !(k==9)
theorem rZ (k:Int)(w:World):Calls Tryz.prog 120 #[.int .i64 k] w fun e w'=>e = .returned (.tuple #[.agg #[.bool (idB k),.bool (k==2),.bool (k==3),.bool (k==4),.bool (k==9)],.bool (cW k)])/\Below w.heap.size w w':=by
 have F0:Fo [] (fun _=>False) w (fun _=>True) w []:=Fo.start nofun fun _ _=>trivial;by_cases hk:k<1\/12<k
 ·have e1:cW k=false:=by unfold cW;rw[Bool.and_eq_false_iff];simp only[decide_eq_false_iff_not];omega
  have e2:idB k=false:=by unfold idB;rw[e1];rfl
  have n2:(k==2)=false:=beq_eq_false_iff_ne.2 (by omega);have n3:(k==3)=false:=beq_eq_false_iff_ne.2 (by omega);have n4:(k==4)=false:=beq_eq_false_iff_ne.2 (by omega);have n9:(k==9)=false:=beq_eq_false_iff_ne.2 (by omega);rw[e1,e2,n2,n3,n4,n9];refine enter (fun _=>0) [.i .i64 (.x fun _=>k)] [] Tryz.func120 rfl rfl F0 30 rfl ?_;refine ga env (Fo.frm _ _ _ _ _ rfl) aA ?_;refine⟨fun q=>?_,fun _=>?_⟩
  ·have:k=9:=by simpa [BE.den,cmpB,IE.den] using q
   omega
  refine ga env (Fo.frm _ _ _ _ _ rfl) aA ?_;refine⟨fun q=>?_,fun _=>?_⟩
  ·have:k=1:=by simpa [BE.den,cmpB,IE.den] using q
   omega
  refine ga env (Fo.frm _ _ _ _ _ rfl) aA ?_;refine⟨fun q=>?_,fun _=>?_⟩
  ·have:k=2:=by simpa [BE.den,cmpB,IE.den] using q
   omega
  refine ga env (Fo.frm _ _ _ _ _ rfl) aA ?_;refine⟨fun q=>?_,fun _=>?_⟩
  ·have:k=3:=by simpa [BE.den,cmpB,IE.den] using q
   omega
  refine ga env (Fo.frm _ _ _ _ _ rfl) aA ?_;refine⟨fun q=>?_,fun _=>?_⟩
  ·have:k=4:=by simpa [BE.den,cmpB,IE.den] using q
   omega
  refine ga env (Fo.frm _ _ _ _ _ rfl) aA ?_;refine⟨fun q=>?_,fun _=>?_⟩
  ·have:k=5:=by simpa [BE.den,cmpB,IE.den] using q
   omega
  refine ga env (Fo.frm _ _ _ _ _ rfl) aA ?_;refine⟨fun q=>?_,fun _=>?_⟩
  ·have:k=6:=by simpa [BE.den,cmpB,IE.den] using q
   omega
  refine ga env (Fo.frm _ _ _ _ _ rfl) aA ?_;refine⟨fun q=>?_,fun _=>?_⟩
  ·have:k=7:=by simpa [BE.den,cmpB,IE.den] using q
   omega
  refine ga env (Fo.frm _ _ _ _ _ rfl) aA ?_;refine⟨fun q=>?_,fun _=>?_⟩
  ·have:k=8:=by simpa [BE.den,cmpB,IE.den] using q
   omega
  refine ga env (Fo.frm _ _ _ _ _ rfl) aA ?_;refine⟨fun q=>?_,fun _=>?_⟩
  ·have:k=10:=by simpa [BE.den,cmpB,IE.den] using q
   omega
  refine ga env (Fo.frm _ _ _ _ _ rfl) aA ?_;refine⟨fun q=>?_,fun _=>?_⟩
  ·have:k=11:=by simpa [BE.den,cmpB,IE.den] using q
   omega
  refine ga env (Fo.frm _ _ _ _ _ rfl) aA ?_;refine⟨fun q=>?_,fun _=>?_⟩
  ·have:k=12:=by simpa [BE.den,cmpB,IE.den] using q
   omega
  refine ga env (Fo.frm _ _ _ _ _ rfl) aA ?_;refine fa env (Fo.frm _ _ _ _ _ rfl) ?_;intro B v F;exact⟨rfl,F.bel⟩
 ·have hk2:k=1\/k=2\/k=3\/k=4\/k=5\/k=6\/k=7\/k=8\/k=9\/k=10\/k=11\/k=12:=by omega
  rcases hk2 with rfl|rfl|rfl|rfl|rfl|rfl|rfl|rfl|rfl|rfl|rfl|rfl
  all_goals
   refine enter (fun _=>0) [.i .i64 (.l _)] [] Tryz.func120 rfl rfl F0 30 rfl ?_;refine ga env (Fo.frm _ _ _ _ _ rfl) aA ?_;refine fa env (Fo.frm _ _ _ _ _ rfl) ?_;intro B v F;exact⟨rfl,F.bel⟩

def plSd:Nat->Option Pl
 | 2=>some ⟨[0,1,3,7,15,31,63,127,255,255,1023,255,4095,8191,16383,32767],1024,[.h [0,1,2,3,4,5,6,7,8,9,11],.o 10,.o 12,.h [13,14,15]],[]⟩
 | _=>none
def plRs:Nat->Option Pl
 | 1=>some ⟨[0,1,3,7,15,31,63,127,255,511,1023,2047,4095,8191,16383,32767,16383,131071,262143,524287],32768,[.h [0,1,2,3,4,5,6,7,8,9,10,11,12,13,14,16],.o 15,.o 17,.h [18,19]],[]⟩
 | _=>none

def bX (k:IE)(c:cI)(A:fO):List AV:=[.i .i64 k,.i .u64 (.x fun _=>c.cl),.i .u64 (.x fun _=>c.rq),.i .u64 (.x fun _=>c.id),.i .i64 (.x fun _=>c.ct),.i .i64 (.x fun _=>c.at'),.i .i64 (.x fun _=>c.cal.o),.sl (fun _=>A.wa) (fun _=>A.wn) (fun _=>A.wc),.sl (fun _=>A.ca) (fun _=>A.cn) (fun _=>A.cc),.i .i64 (.x fun _=>c.tm.c),.sl (fun _=>A.la) (fun _=>A.ln) (fun _=>A.lc),.i .i64 (.x fun _=>c.tm.r),.i .i64 (.x fun _=>c.tm.b)]
def xF (id cal tm ct at':Bool)(c:cI):cI:=⟨c.k,c.cl,c.rq,if id then c.id else 0,if ct then c.ct else 0,if at' then c.at' else 0,if cal then c.cal else dR,if tm then c.tm else dS⟩
def aIf (cal tm:Bool)(A:fO):fO:=⟨if cal then A.wa else none,if cal then A.wn else 0,if cal then A.wc else 0,if cal then A.ca else none,if cal then A.cn else 0,if cal then A.cc else 0,if tm then A.la else none,if tm then A.ln else 0,if tm then A.lc else 0⟩
def jU (c:cI):cI:=xF (idB c.k) (c.k==2) (c.k==3) (c.k==4) (c.k==9) c
def tT (k:Int)(A:fO):fO:=aIf (k==2) (k==3) A
theorem aY.only {w:World}{c:cI}{A:fO}(h:aY w c A)(id cal tm ct at':Bool):aY w (xF id cal tm ct at' c) (aIf cal tm A):=by
 refine⟨?_,?_,?_,?_⟩
 ·cases cal
  ·exact cE.zero w
  ·exact h.cal
 ·cases tm
  ·exact cF.zero w
  ·exact h.tm
 ·cases at'
  ·show (-9223372036854775808:Int)<=0;decide
  ·exact h.at0
 ·cases at'
  ·show (0:Int)<9223372036854775808;decide
  ·exact h.at1
theorem yU (c:cI)(A:fO)(id cal tm ct at':Bool)(w:World):Calls Tryz.prog 135 #[.agg (gY c A).toArray,.agg #[.bool id,.bool cal,.bool tm,.bool ct,.bool at']] w fun e w'=>e = .returned (.agg (gY (xF id cal tm ct at' c) (aIf cal tm A)).toArray)/\Below w.heap.size w w':=by
 have F0:Fo [] (fun _=>False) w (fun _=>True) w []:=Fo.start nofun fun _ _=>trivial;cases id<;>cases cal<;>cases tm<;>cases ct<;>cases at'
 all_goals
  refine enter (fun _=>0) [.g (bX (.x fun _=>c.k) c A),.g [.b (.l _),.b (.l _),.b (.l _),.b (.l _),.b (.l _)]] [] Tryz.func135 rfl rfl F0 26 rfl ?_;refine ga env (Fo.frm _ _ _ _ _ rfl) aA ?_;refine fa env (Fo.frm _ _ _ _ _ rfl) ?_;intro B v F;exact⟨rfl,F.bel⟩
theorem zF (c:cI)(A:fO)(w:World)(hk:1<=c.k/\c.k<=12):Calls Tryz.prog 139 #[.agg (gY c A).toArray] w fun e w'=>e = .returned (.agg (gY (jU c) (tT c.k A)).toArray)/\Below w.heap.size w w':=by
 have F0:Fo [] (fun _=>False) w (fun _=>True) w []:=Fo.start nofun fun _ _=>trivial;obtain⟨k,cl,rq,id,ct,at1,cal,tm⟩:=c;simp only at hk;have hk2:k=1\/k=2\/k=3\/k=4\/k=5\/k=6\/k=7\/k=8\/k=9\/k=10\/k=11\/k=12:=by omega
 rcases hk2 with rfl|rfl|rfl|rfl|rfl|rfl|rfl|rfl|rfl|rfl|rfl|rfl
 all_goals
  refine enter (fun _=>0) [.g (bX (.l _) ⟨_,cl,rq,id,ct,at1,cal,tm⟩ A)] [] Tryz.func139 rfl rfl F0 44 rfl ?_;refine ga env (Fo.frm _ _ _ _ _ rfl) aA ?_;refine fa env (Fo.frm _ _ _ _ _ rfl) ?_;intro B v F;exact⟨rfl,F.bel⟩

def bY (c:cI):Bool:=cW c.k&&(decide (c.cl<=8)&&(decide (jU c=c)&&(if c.k=2 then bV c.cal==0 else if c.k=3 then dW c.tm else decide (0<=c.ct)&&decide (c.ct<=15))))
theorem fX {c:cI}(h:cW c.k=false):bY c=false:=by unfold bY;rw[h];rfl
theorem tI {c:cI}(h:¬c.cl<=8):bY c=false:=by unfold bY;rw[decide_eq_false h,Bool.false_and,Bool.and_false]
theorem nY {c:cI}(h:decide (jU c=c)=false):bY c=false:=by unfold bY;rw[h,Bool.false_and,Bool.and_false,Bool.and_false]
theorem nZ {c:cI}(h0:cW c.k=true)(h1:c.cl<=8)(h2:decide (jU c=c)=true):bY c=(if c.k=2 then bV c.cal==0 else if c.k=3 then dW c.tm else decide (0<=c.ct)&&decide (c.ct<=15)):=by unfold bY;rw[h0,decide_eq_true h1,h2,Bool.true_and,Bool.true_and,Bool.true_and]
theorem yS (c:cI)(A:fO)(w:World):Calls Tryz.prog 135 #[.agg (gY c A).toArray,.agg #[.bool (idB c.k),.bool (c.k==2),.bool (c.k==3),.bool (c.k==4),.bool (c.k==9)]] w fun e w'=>e = .returned (.agg (gY (jU c) (tT c.k A)).toArray)/\Below w.heap.size w w':=yU c A _ _ _ _ _ w
theorem aY.kept {w:World}{c:cI}{A:fO}(h:aY w c A):aY w (jU c) (tT c.k A):=h.only _ _ _ _ _
theorem cH (c:cI)(A:fO)(w:World)(h:aY w c A):Calls Tryz.prog 93 #[.agg (gY c A).toArray] w fun e w'=>e = .returned (.bool (bY c))/\Below w.heap.size w w':=by
 have F0:Fo [] (fun _=>False) w (fun v=>Below w.heap.size w v/\aY v c A) w []:=Fo.start nofun fun _ bv=>⟨bv,h.below bv⟩;clear h;refine enter (fun _=>0) [.g (bX (.x fun _=>c.k) c A)] [] Tryz.func93 rfl rfl F0 48 rfl ?_;refine ga env (Fo.frm _ _ _ _ 0 rfl) plSd ?_;intro B v F;refine(rZ c.k v).mono ?_;rintro e w2 ⟨rfl,hb⟩;cases hn:cW c.k with
 | false =>
  rw[fX hn];refine⟨.t [.g [.b (.x fun _=>idB c.k),.b (.x fun _=>c.k==2),.b (.x fun _=>c.k==3),.b (.x fun _=>c.k==4),.b (.x fun _=>c.k==9)],.b (.l false)],_,rfl,(Fo.frm _ _ _ _ _ rfl).b,F.on hb,?_⟩;clear F hb;refine ga env (Fo.frm _ _ _ _ 1 rfl) plSd ?_;refine fa env (Fo.frm _ _ _ _ 1 rfl) ?_;intro B v F;exact⟨rfl,F.now.1⟩
 | true =>
 refine⟨.t [.g [.b (.x fun _=>idB c.k),.b (.x fun _=>c.k==2),.b (.x fun _=>c.k==3),.b (.x fun _=>c.k==4),.b (.x fun _=>c.k==9)],.b (.l true)],_,rfl,(Fo.frm _ _ _ _ _ rfl).b,F.on hb,?_⟩;clear F hb;refine ga env (Fo.frm _ _ _ _ 1 rfl) plSd ?_;by_cases hcl:c.cl<=8
 case neg =>
  rw[tI hcl];refine aI 19 true (e:=.cmp .gtr (.x fun _=>c.cl) (.l 8)) (decide_eq_true (show c.cl > 8 by omega)) ?_;refine ga env (Fo.frm _ _ _ _ 1 rfl) plSd ?_;refine fa env (Fo.frm _ _ _ _ 1 rfl) ?_;intro B v F;exact⟨rfl,F.now.1⟩
 refine aI 19 false (e:=.cmp .gtr (.x fun _=>c.cl) (.l 8)) (decide_eq_false (show ¬c.cl > 8 by omega)) ?_;refine ga env (Fo.frm _ _ _ _ 1 rfl) plSd ?_;intro B v F;refine(yS c A v).mono ?_;rintro e w2 ⟨rfl,hb⟩;have hkp:=fun u (bu:Below w2.heap.size w2 u)=>(F.later (v:=u) (hb.trans (bu.mono hb.size))).2.kept;generalize tT c.k A=A1 at hkp ⊢;generalize hc1:jU c=c1 at hkp ⊢;refine⟨.g (bX (.x fun _=>c1.k) c1 A1),_,rfl,(Fo.frm _ _ _ _ _ rfl).b,F.step hb (Z:=fun v=>aY v c1 A1) hkp,?_⟩;clear F hb hkp;refine ga env (Fo.frm _ _ _ _ 2 rfl) plSd ?_;intro B v F;refine(jG c1 c A1 A v F.now.1 F.now.2.2).mono ?_;rintro e w2 ⟨rfl,hb⟩;subst hc1;have hq:=@nZ c hn hcl;have hq2:=@nY c;generalize decide (jU c=c)=q0 at hq hq2 ⊢;refine⟨.b (.x fun _=>q0),_,rfl,(Fo.frm _ _ _ _ _ rfl).b,F.on hb,?_⟩;clear F hb;cases q0 with
 | false =>
  rw[hq2 rfl];refine ga env (Fo.frm _ _ _ _ 2 rfl) plSd ?_;refine⟨fun q=>?_,fun q=>(by cases q)⟩;refine ga env (Fo.frm _ _ _ _ 2 rfl) plSd ?_;refine fa env (Fo.frm _ _ _ _ 2 rfl) ?_;intro B v F;exact⟨rfl,F.now.2.1⟩
 | true =>
 rw[hq rfl];clear hq hq2;refine ga env (Fo.frm _ _ _ _ 2 rfl) plSd ?_;refine⟨fun q=>(by cases q),fun q=>?_⟩;refine ga env (Fo.frm _ _ _ _ 2 rfl) plSd ?_;refine⟨fun q=>?_,fun q=>?_⟩
 ·rw[if_pos (by simpa [BE.den] using q)];refine ga env (Fo.frm _ _ _ _ 2 rfl) plSd ?_;intro B v F;refine(kQ c.cal A.wa _ _ A.ca _ _ v F.now.2.2.cal).mono ?_;rintro e w2 ⟨rfl,hb⟩;refine⟨.i .i64 (.x fun _=>bV c.cal),_,rfl,(Fo.frm _ _ _ _ _ rfl).b,F.on hb,?_⟩;clear F hb;refine ga env (Fo.frm _ _ _ _ 2 rfl) plSd ?_;refine fa env (Fo.frm _ _ _ _ 2 rfl) ?_;intro B v F;exact⟨rfl,F.now.2.1⟩
 rw[if_neg (by simpa [BE.den] using q)];refine ga env (Fo.frm _ _ _ _ 2 rfl) plSd ?_;refine⟨fun q=>?_,fun q=>?_⟩
 ·rw[if_pos (by simpa [BE.den] using q)];refine ga env (Fo.frm _ _ _ _ 2 rfl) plSd ?_;intro B v F;refine(kR c.tm A.la _ _ v F.now.2.2.tm).mono ?_;rintro e w2 ⟨rfl,hb⟩;refine⟨.i .i64 (.x fun _=>if dW c.tm then (0:Int) else 2),_,rfl,(Fo.frm _ _ _ _ _ rfl).b,F.on hb,?_⟩;clear F hb;refine ga env (Fo.frm _ _ _ _ 2 rfl) plSd ?_;refine fa env (Fo.frm _ _ _ _ 2 rfl) ?_;intro B v F;refine⟨?_,F.now.2.1⟩;show Ending.returned (.bool ((if dW c.tm then (0:Int) else 2)==0))=_;cases h:dW c.tm<;>simp
 rw[if_neg (by simpa [BE.den] using q)];refine ga env (Fo.frm _ _ _ _ 2 rfl) plSd ?_;by_cases hct:0<=c.ct
 case neg =>
  refine aI 44 false (e:=.cmp .geq (.x fun _=>c.ct) (.l 0)) (decide_eq_false hct) ?_;refine ga env (Fo.frm _ _ _ _ 2 rfl) plSd ?_;refine fa env (Fo.frm _ _ _ _ 2 rfl) ?_;intro B v F;refine⟨?_,F.now.2.1⟩;rw[decide_eq_false hct];rfl
 refine aI 44 true (e:=.cmp .geq (.x fun _=>c.ct) (.l 0)) (decide_eq_true hct) ?_;refine ga env (Fo.frm _ _ _ _ 2 rfl) plSd ?_;refine fa env (Fo.frm _ _ _ _ 2 rfl) ?_;intro B v F;refine⟨?_,F.now.2.1⟩;rw[decide_eq_true hct,Bool.true_and];show Ending.returned (.bool (decide (c.ct<16)))=_;rw[decide_eq_decide.2 (show c.ct<16 ↔ c.ct<=15 by omega)]
theorem kS (c:cI)(A:fO)(w:World)(h:aY w c A):Calls Tryz.prog 96 #[.agg (gY c A).toArray] w fun e w'=>e = .returned (.bool (bY c))/\Below w.heap.size w w':=by
 have F0:Fo [] (fun _=>False) w (fun v=>Below w.heap.size w v/\aY v c A) w []:=Fo.start nofun fun _ bv=>⟨bv,h.below bv⟩;clear h;refine enter (fun _=>0) [.g (bX (.x fun _=>c.k) c A)] [] Tryz.func96 rfl rfl F0 43 rfl ?_;refine ga env (Fo.frm _ _ _ _ 0 rfl) plRs ?_;by_cases h1:c.k<1
 ·rw[fX (by unfold cW;rw[decide_eq_false (by omega:¬1<=c.k)];rfl)];refine aI 6 true (e:=.cmp .lss (.x fun _=>c.k) (.l 1)) (decide_eq_true h1) ?_;refine ga env (Fo.frm _ _ _ _ 0 rfl) plRs ?_;refine fa env (Fo.frm _ _ _ _ 0 rfl) ?_;intro B v F;exact⟨rfl,F.bel⟩
 refine aI 6 false (e:=.cmp .lss (.x fun _=>c.k) (.l 1)) (decide_eq_false h1) ?_;refine ga env (Fo.frm _ _ _ _ 0 rfl) plRs ?_;by_cases h12:c.k > 12
 ·rw[fX (by unfold cW;rw[decide_eq_false (by omega:¬c.k<=12),Bool.and_false])];refine aI 11 true (e:=.cmp .gtr (.x fun _=>c.k) (.l 12)) (decide_eq_true h12) ?_;refine ga env (Fo.frm _ _ _ _ 0 rfl) plRs ?_;refine fa env (Fo.frm _ _ _ _ 0 rfl) ?_;intro B v F;exact⟨rfl,F.bel⟩
 refine aI 11 false (e:=.cmp .gtr (.x fun _=>c.k) (.l 12)) (decide_eq_false h12) ?_;refine ga env (Fo.frm _ _ _ _ 0 rfl) plRs ?_;have hn:cW c.k=true:=by unfold cW;rw[decide_eq_true (by omega:1<=c.k),decide_eq_true (by omega:c.k<=12)];rfl
 by_cases hcl:c.cl<=8
 case neg =>
  rw[tI hcl];refine aI 16 true (e:=.cmp .gtr (.x fun _=>c.cl) (.l 8)) (decide_eq_true (show c.cl > 8 by omega)) ?_;refine ga env (Fo.frm _ _ _ _ 0 rfl) plRs ?_;refine fa env (Fo.frm _ _ _ _ 0 rfl) ?_;intro B v F;exact⟨rfl,F.bel⟩
 refine aI 16 false (e:=.cmp .gtr (.x fun _=>c.cl) (.l 8)) (decide_eq_false (show ¬c.cl > 8 by omega)) ?_;refine ga env (Fo.frm _ _ _ _ 0 rfl) plRs ?_;intro B v F;refine(zF c A v ⟨by omega,by omega⟩).mono ?_;rintro e w2 ⟨rfl,hb⟩;have hkp:=fun u (bu:Below w2.heap.size w2 u)=>(F.later (v:=u) (hb.trans (bu.mono hb.size))).2.kept;generalize tT c.k A=A1 at hkp ⊢;generalize hc1:jU c=c1 at hkp ⊢;refine⟨.g (bX (.x fun _=>c1.k) c1 A1),_,rfl,(Fo.frm _ _ _ _ _ rfl).b,F.step hb (Z:=fun v=>aY v c1 A1) hkp,?_⟩;clear F hb hkp;refine ga env (Fo.frm _ _ _ _ 1 rfl) plRs ?_;intro B v F;refine(jI c1 c A1 A v F.now.1 F.now.2.2).mono ?_;rintro e w2 ⟨rfl,hb⟩;subst hc1;have hq:=@nZ c hn hcl;have hq2:=@nY c;generalize decide (jU c=c)=q0 at hq hq2 ⊢;refine⟨.b (.x fun _=>q0),_,rfl,(Fo.frm _ _ _ _ _ rfl).b,F.on hb,?_⟩;clear F hb;cases q0 with
 | false =>
  rw[hq2 rfl];refine ga env (Fo.frm _ _ _ _ 1 rfl) plRs ?_;refine⟨fun q=>?_,fun q=>(by cases q)⟩;refine ga env (Fo.frm _ _ _ _ 1 rfl) plRs ?_;refine fa env (Fo.frm _ _ _ _ 1 rfl) ?_;intro B v F;exact⟨rfl,F.now.2.1⟩
 | true =>
 rw[hq rfl];clear hq hq2;refine ga env (Fo.frm _ _ _ _ 1 rfl) plRs ?_;refine⟨fun q=>(by cases q),fun q=>?_⟩;refine ga env (Fo.frm _ _ _ _ 1 rfl) plRs ?_;refine⟨fun q=>?_,fun q=>?_⟩
 ·rw[if_pos (by simpa [BE.den,cmpB,IE.den] using q)];refine ga env (Fo.frm _ _ _ _ 1 rfl) plRs ?_;intro B v F;refine(pM c.cal A.wa _ _ A.ca _ _ v F.now.2.2.cal).mono ?_;rintro e w2 ⟨rfl,hb⟩;refine⟨.i .i64 (.x fun _=>bV c.cal),_,rfl,(Fo.frm _ _ _ _ _ rfl).b,F.on hb,?_⟩;clear F hb;refine ga env (Fo.frm _ _ _ _ 1 rfl) plRs ?_;refine fa env (Fo.frm _ _ _ _ 1 rfl) ?_;intro B v F;exact⟨rfl,F.now.2.1⟩
 rw[if_neg (by simpa [BE.den,cmpB,IE.den] using q)];refine ga env (Fo.frm _ _ _ _ 1 rfl) plRs ?_;refine⟨fun q=>?_,fun q=>?_⟩
 ·rw[if_pos (by simpa [BE.den,cmpB,IE.den] using q)];refine ga env (Fo.frm _ _ _ _ 1 rfl) plRs ?_;intro B v F;refine(zC c.tm A.la _ _ v F.now.2.2.tm).mono ?_;rintro e w2 ⟨rfl,hb⟩;refine⟨.b (.x fun _=>dW c.tm),_,rfl,(Fo.frm _ _ _ _ _ rfl).b,F.on hb,?_⟩;clear F hb;refine ga env (Fo.frm _ _ _ _ 1 rfl) plRs ?_;refine fa env (Fo.frm _ _ _ _ 1 rfl) ?_;intro B v F;exact⟨rfl,F.now.2.1⟩
 rw[if_neg (by simpa [BE.den,cmpB,IE.den] using q)];refine ga env (Fo.frm _ _ _ _ 1 rfl) plRs ?_;by_cases hct:0<=c.ct
 case neg =>
  refine aI 39 false (e:=.cmp .geq (.x fun _=>c.ct) (.l 0)) (decide_eq_false hct) ?_;refine ga env (Fo.frm _ _ _ _ 1 rfl) plRs ?_;refine fa env (Fo.frm _ _ _ _ 1 rfl) ?_;intro B v F;refine⟨?_,F.now.2.1⟩;rw[decide_eq_false hct];rfl
 refine aI 39 true (e:=.cmp .geq (.x fun _=>c.ct) (.l 0)) (decide_eq_true hct) ?_;refine ga env (Fo.frm _ _ _ _ 1 rfl) plRs ?_;refine fa env (Fo.frm _ _ _ _ 1 rfl) ?_;intro B v F;refine⟨?_,F.now.2.1⟩;rw[decide_eq_true hct,Bool.true_and];rfl
end Go.Proofs.YtgeihgombjbkbaaGreat
namespace Go.Proofs.Own
open Go Go.RowKit
theorem Fo.toD {w0 w w':World}{R Z':World->Prop}{L:Bx}{b rb:Nat}(F:Fo [] (fun _=>False) w0 R w L)(hb:Below w.heap.size w w')(e:TypeId)(sz:Nat)(hbs:w.heap.size<=b)(hlt:b<w'.heap.size)(hrb:rb<w0.heap.size)
  (hz:∀U:Nat->Prop,¬U b -> ¬U rb->Sf U w' Z'):FrD b rb w0 (fun _=>True) Z' e sz (.slice none 0 0) [] w' L:=by
 obtain⟨L',e,f⟩:=F;rw[List.nil_append]at e;subst e;have hw:=f.bel.size;have hr:∀k,k ∈ L.map (·.1)->w0.heap.size<=k/\k<w.heap.size:=fun k hk=>by
  obtain⟨p,hp,rfl⟩:=List.mem_map.1 hk;exact f.rng p hp
 refine⟨fun i p hp=>(f.box i p hp).below hb,f.inj,fun k hk=>?_,⟨hlt,?_⟩,?_,dZ.nil _ _ _ _,nofun,fun _ _=>trivial,?_⟩
 ·have:=hr k hk;exact⟨this.1,by omega,by omega⟩
 ·have:=hb.size;omega
 ·exact Kept.aQ (f.bel.trans (hb.mono hw)) (fun k h1 h2=>by omega)
 ·refine hz _ (fun h=>?_) (fun h=>?_)
  ·rcases h with h|h
   ·cases h
   ·have:=hr _ h;omega
  ·rcases h with h|h
   ·cases h
   ·have:=hr _ h;omega
section
variable {P:Program} {tt:TypeId->Option TI} {s:St} {B:Nat->Nat} {w:World} {Q:Exit->Act->World->Prop} {fs:FuncId->Bool} {F:World->Bx->Prop} {k:List KF}
theorem gn {k8:KB}(n:Nat)(E:Env P Q tt fs)(hF:Frm F k8)(pls:Nat->Option Pl){c:Cf}{o:Out}(h:bE P Q F k8 o)(hc:plCf pls c=true:=by kernel_rfl)(hk:plK pls k=true:=by kernel_rfl)(e:run tt k8 pls fs n c s k=o:=by cbv):Ok P Q F c s k:=go E hF n hc hk e h
theorem oE {k8:KB}{c:Cf}(j:Nat)(x a:AV)(h:∀B,x.den B=a.den B)(hk:Ok P Q F c ⟨setN s.tm j a,s.bx⟩ k)(hj:getT s.tm j=x:=by cbv):bE P Q F k8 (.at c s k):=aLG j a (fun B=>by rw[hj,h]) hk
theorem kG (hT:TTok P tt){o:Oper}{t de:TypeId}{dl:Nat}{x ix:Operand}{ei:TI}{b off:Nat}{kk:IntKind}{i:Nat}(ho:o.op = .indexAddr t x ix)(hu:P.underlying t=some (.array dl de))(hde:tt de=some ei)(hx:(s.act B).eval x = .pointer (some ⟨b,off,none⟩))(hi:(s.act B).eval ix = .int kk (i:Int))(hlt:i<dl)(hn:(ei.n==0)=false) :
  (execOp (s.act B).eval o).run P w = .ok (.value (.pointer (some ⟨b,off+i*ei.n,none⟩))) w:=by
 obtain⟨dst,op,ty,pos,after,gd⟩:=o;simp only at ho;subst ho;simp only[execOp];refine val_run ?_;have hs:=(hT _ _ hde).sizeOf (w:=w);have h2:(0:Int)<=(i:Int)/\(i:Int)<(dl:Int):=by omega
 have hn:ei.n≠0:=by simpa using hn
 rw[hi,hx];simp[Instr.indexAt,Instr.sureAddr,asIntOf,run_underlying hu,h2,hs,hlt,Addr.add_mid]
def unP (i:Nat)(a:Unit->Addr):List AV->List AV
 | []=>[]
 | .p j o::l=>(match Nat.beq j i with|true=>AV.pa fun _=>⟨(a ()).block,o,none⟩|false=>.p j o)::unP i a l
 | x::l=>x::unP i a l
theorem xP (i:Nat)(a:Unit->Addr)(h:B i=(a ()).block):∀l,AV.denL B (unP i a l)=AV.denL B l
 | []=>rfl
 | x::l=>by
  have ih:=xP i a h l;cases x
  case p j o =>
   rw[unP,AV.denL,AV.denL,ih]
   congr 1
   split
   ·rename_i e;rw[AV.den,AV.den,Nat.eq_of_beq_eq_true e,h]
   ·rfl
  all_goals rw[unP,AV.denL,AV.denL,ih];simp
theorem lL {k8:KB}{c:Cf}(n:Nat)(h:∀B w,F w (mkB B 0 s.bx) -> ∃F2,F2 w (mkB B 0 (s.bx.take n))/\Ok P Q F2 c ⟨unP n (fun _=>⟨B n,0,none⟩) s.tm,s.bx.take n⟩ k)(hc:aIw c=true:=by rfl):bE P Q F k8 (.at c s k):=by
 show Ok P Q F c s k;intro B w H;obtain⟨F2,h1,h2⟩:=h B w H;have:=h2 B w h1;have ha:St.act B ⟨unP n (fun _=>⟨B n,0,none⟩) s.tm,s.bx.take n⟩=s.act B:=by unfold St.act;rw[xP (B:=B) n _ rfl]
 cases c with
 | code c=>simp only at this ⊢;rw[ha]at this;exact this
 | ops l r=>simp only at this ⊢;rw[ha]at this;exact this
 | ex e=>simp only at this ⊢;rw[ha]at this;exact this
 | pl=>cases hc
 | hd=>cases hc
end
end Go.Proofs.Own
namespace Go.Proofs.YtgeihgombjbkbaaGreat
open Go.RowKit Go.Maps Go.Proofs.Own
def fY:cI:=⟨0,0,0,0,0,0,dR,dS⟩
def gK (k cl rq:Int)(s:RS):cI × RS :=
 if k=2 then (⟨k,cl,rq,(aF ALL s.1:Nat),0,0,(gX (nS ALL s)).1,dS⟩,(gX (nS ALL s)).2.1)
 else if k=3 then (⟨k,cl,rq,(aF ALL s.1:Nat),0,0,dR,(gL (nS ALL s)).1⟩,(gL (nS ALL s)).2.1)
 else if k=4 then (⟨k,cl,rq,(aF ALL s.1:Nat),(aF 15 (nS ALL s).1:Nat),0,dR,dS⟩,nS 15 (nS ALL s))
 else if k=9 then (⟨k,cl,rq,0,0,iY s.1,dR,dS⟩,iS s)
 else if k=1 then (⟨k,cl,rq,0,0,0,dR,dS⟩,s)
 else (⟨k,cl,rq,(aF ALL s.1:Nat),0,0,dR,dS⟩,nS ALL s)
def aAz (l:List Nat):RS:=nS ALL (nS 8 (nS 12 (l,false)))
def eF (l:List Nat):cI × RS:=gK (aF 12 l:Nat) (aF 8 (nS 12 (l,false)).1:Nat) (aF ALL (nS 8 (nS 12 (l,false))).1:Nat) (aAz l)
def lE (l:List Nat):cI × Int:=if 2048<l.length then (fY,21) else if lR (eF l).2.1 (eF l).2.2=0/\bY (eF l).1=true then ((eF l).1,0) else (fY,20)
def dV (l:List Nat)(w:World):Ending->World->Prop:=fun e w'=>∃A,e = .returned (.tuple #[.agg (gY (lE l).1 A).toArray,.int .i64 (lE l).2])/\Sf (fun k=>k<w.heap.size) w' (fun u=>aY u (lE l).1 A)/\Below w.heap.size w w'
def eU:fO:=⟨none,0,0,none,0,0,none,0,0⟩
theorem aY.zero (w:World):aY w fY eU:=⟨cE.zero w,cF.zero w,by decide,by decide⟩
theorem dV.bad {l:List Nat}{w w':World}(h:lE l=(fY,20))(hb:Below w.heap.size w w'):dV l w (.returned (.tuple #[.agg (gY fY eU).toArray,.int .i64 20])) w':=by
 unfold dV;rw[h];exact⟨eU,rfl,fun u _=>aY.zero u,hb⟩
end Go.Proofs.YtgeihgombjbkbaaGreat
namespace Go.Proofs.YtgeihgombjbkbaaGreat
open Go.RowKit Go.Maps Go.Proofs.Own
theorem eN {l:List Nat}{r:cI × RS}(h:eF l=r)(hl:¬2048<l.length)(hb:¬(lR r.2.1 r.2.2=0/\bY r.1=true)):lE l=(fY,20):=by subst h;rw[lE,if_neg hl,if_neg hb]
theorem kE {l:List Nat}{r:cI × RS}(h:eF l=r)(hl:¬2048<l.length)(hb:lR r.2.1 r.2.2=0/\bY r.1=true):lE l=(r.1,0):=by subst h;rw[lE,if_neg hl,if_pos hb]
theorem nE:(-9223372036854775808:Int)<=0/\(0:Int)<9223372036854775808:=⟨by decide,by decide⟩
theorem gN (l:List Nat)(b:Bool):lR l b=0\/lR l b=20:=by
 unfold lR;split
 ·exact .inr rfl
 ·exact .inl rfl
theorem aLO {k:Int}(h:idB k=true):1<k/\k≠9:=by
 unfold idB cW at h;simp only[Bool.and_eq_true,decide_eq_true_eq,Bool.not_eq_true',beq_eq_false_iff_ne]at h;omega
theorem aLN {k:Int}(h0:0<=k)(h1:k<=12)(h:¬idB k=true):k=0\/k=1\/k=9:=by
 unfold idB cW at h;simp only[Bool.and_eq_true,decide_eq_true_eq,Bool.not_eq_true',beq_eq_false_iff_ne]at h;omega
end Go.Proofs.YtgeihgombjbkbaaGreat
namespace Go.Proofs.YtgeihgombjbkbaaGreat
open Go.RowKit Go.Maps Go.Proofs.Own

structure aL where
 k:Int
 who:Int
 n:Int
 to:Int
 id:Int
 com:cI
 ts:List aO
deriving DecidableEq
structure aT where
 com:fO
 ta:Option Addr
 tn:Nat
 tc:Nat
def trV (s:aO):List Value:=[.int .u16 s.f,.int .u32 s.t]
def cJ (a:aL)(A:aT):List Value:=[.int .i64 a.k,.int .i64 a.who,.int .i64 a.n,.int .i64 a.to,.int .u64 a.id]++gY a.com A.com ++ [.slice A.ta A.tn A.tc]
structure bO (w:World)(a:aL)(A:aT):Prop where
 com:aY w a.com A.com
 ts:aM w 2 (.slice A.ta A.tn A.tc) (a.ts.map trV)
 n:a.ts.length=A.tn
 sm:a.ts.length<=2147483648
theorem bO.below {w w':World}{a:aL}{A:aT}(h:bO w a A)(hb:Below w.heap.size w w'):bO w' a A:=⟨h.com.below hb,h.ts.below hb,h.n,h.sm⟩
def wR (k who n to id:IE)(c:cI)(C:fO)(ts:AV):List AV:=[.i .i64 k,.i .i64 who,.i .i64 n,.i .i64 to,.i .u64 id]++bX (.x fun _=>c.k) c C ++ [ts]
def iU (t:RS):RS:=(nB 2048 t.1,t.2 || nA 2048 t.1)
def sP (t:RS):cI × RS:=if fR 2048 t.1 = [] then (fY,iU t) else ((lE (fR 2048 t.1)).1,if (lE (fR 2048 t.1)).2=0 then iU t else ([],true))
def pH (t:RS):List aO × RS:=prS 65535 4294967295 (aF 16 t.1) (nS 16 t)
def sO (t:RS):RS:=nS ALL (iS (nS 7 (nS 8 (nS 20 t))))
def lC (t:RS):aL × RS:=(⟨(aF 20 t.1:Nat),(aF 8 (nS 20 t).1:Nat),iY (nS 7 (nS 8 (nS 20 t))).1,(aF 7 (nS 8 (nS 20 t)).1:Nat),(aF ALL (iS (nS 7 (nS 8 (nS 20 t)))).1:Nat),(sP (sO t)).1,(pH (sP (sO t)).2).1⟩,(pH (sP (sO t)).2).2)
def aKA (b rb:Nat)(t:RS)(w:World):Ending->World->Prop:=fun e w'=>∃A,e = .returned (.agg (cJ (lC t).1 A).toArray)/\Sf (fun k=>k<w.heap.size) w' (fun u=>bO u (lC t).1 A)/\bF w' b rb (lC t).2.1 (lC t).2.2/\Kept w w' (fun k=>k=b)
theorem aKr {m:Nat}{l:List Nat}:∀c ∈ fR m l,c ∈ l:=by
 unfold fR fT;intro c hc;split at hc
 ·have hc:=List.mem_of_mem_take hc;split at hc
  ·exact List.mem_of_mem_drop hc
  ·cases hc
 ·cases hc
theorem aKq (m:Nat)(l:List Nat):(fR m l).length<=m:=by
 unfold fR;split
 ·rw[List.length_take];have:=aU m l;omega
 ·exact Nat.zero_le _
theorem aLY {w:World}{b rb:Nat}{l:List Nat}{bad:Bool}(h:bF w b rb l bad):∀c ∈ l,c<256:=let ⟨_,_,hb,_⟩:=h.ex;hb.lt
theorem rR {m:Nat}{t:RS}{c:Nat}(h:c ∈ (nS m t).1):c ∈ t.1:=by
 unfold nS fT at h;simp only at h;split at h
 ·exact List.mem_of_mem_drop h
 ·cases h
theorem aLM {t:RS}{c:Nat}(h:c ∈ (iS t).1):c ∈ t.1:=by
 unfold iS yK fT at h;simp only at h;split at h
 ·rw[pB]at h;exact List.mem_of_mem_drop h
 ·cases h
theorem aMd {n:Nat}(h:n<=65535):IntKind.u16.wrap (n:Int)=n:=by
 simp only[IntKind.wrap,IntKind.bits,IntKind.signed];simp;omega
theorem aMe {n:Nat}(h:n<=4294967295):IntKind.u32.wrap (n:Int)=n:=by
 simp only[IntKind.wrap,IntKind.bits,IntKind.signed];simp;omega
theorem mQ:cM Tryz.prog 74 112 2 8:=by
 obtain⟨i0,hi,hz0,hz1,hz2⟩:=info_parts (show (Tryz.prog.info? 112).map (fun i=>(i.zero,i.size,i.bytes))=some (some (.agg #[.int .u16 0,.int .u32 0]),2,8) by kernel_rfl);exact⟨Tryz.underlying74,⟨i0,_,hi,hz0,hz1,hz2,rfl⟩,by decide,by decide⟩
theorem wJ:cM Tryz.prog 84 121 2 8:=by
 obtain⟨i0,hi,hz0,hz1,hz2⟩:=info_parts (show (Tryz.prog.info? 121).map (fun i=>(i.zero,i.size,i.bytes))=some (some (.agg #[.int .u16 0,.int .u32 0]),2,8) by kernel_rfl);exact⟨Tryz.underlying84,⟨i0,_,hi,hz0,hz1,hz2,rfl⟩,by decide,by decide⟩
theorem FrD.less {b rb:Nat}{w0 w:World}{R Z:World->Prop}{e:TypeId}{sz:Nat}{v:Value}{rs:List (List Value)}{L M:Bx}(F:FrD b rb w0 R Z e sz v rs w (L++M)):FrD b rb w0 R Z e sz v rs w L:=by
 have hm:∀k,k ∈ L.map (·.1)->k ∈ (L++M).map (·.1):=fun k hk=>by rw[List.map_append];exact List.mem_append_left _ hk
 exact⟨fun i p hp=>F.box i p (by rw[List.getElem?_append_left (List.getElem?_eq_some_iff.1 hp).1];exact hp),fun i j p q hp hq=>F.inj i j p q (by rw[List.getElem?_append_left (List.getElem?_eq_some_iff.1 hp).1];exact hp) (by rw[List.getElem?_append_left (List.getElem?_eq_some_iff.1 hq).1];exact hq),
  fun k hk=>F.rng k (hm k hk),F.lt,F.kept,F.own,fun k hk=>⟨(F.nown k hk).1,(F.nown k hk).2.1,fun h=>(F.nown k hk).2.2 (hm k h)⟩,
  F.s1.sub fun k _ h=>h.imp id (Or.imp id (Or.imp id (hm k))),F.s2.sub fun k _ h=>h.imp id (hm k)⟩
section
variable {b rb:Nat} {w0:World} {R:World->Prop} {e:TypeId} {sz:Nat} {v:Value} {rs:List (List Value)} {Q:Exit->Act->World->Prop} {k8:KB} {s:St} {k:List KF} {c:Cf} {dst:Option Tmp} {t:RS}
theorem aMG (h:Ok Tryz.prog Q (FrD b rb w0 R (Rz b rb (iU t)) e sz v rs) c (s.put dst (.st fun _=>eS (fR 2048 t.1))) k) :
  bE Tryz.prog Q (FrD b rb w0 R (Rz b rb t) e sz v rs) k8 (.call 73 [.pa (fun _=>⟨b,0,none⟩),.i .i64 (.l 2048)] dst c s k):=fun B w F=>by
 refine(yY b 2048 t.1 t.2 w F.z (by decide)).mono ?_;rintro e w' ⟨rfl,h1,h2⟩;exact⟨_,_,rfl,fd.b,F.rd h2 (jY (t:=iU t) h1),h⟩
theorem aMk {Z:World->Prop}{l r:List Oper}{o:Oper}(T:List Nat)(x:Operand)(hT:∀c ∈ T,c<256)(hn:T.length<=2097152)(h0:T ≠ [])
  (h:∀(a:Option Addr) (c kb:Nat),(Value.slice a T.length c).ownBlock=some kb->Ok Tryz.prog Q (FrD b rb w0 (fun u=>(Bytes u (.slice a T.length c) T/\kb<u.heap.size)/\R u) Z e sz v rs) (.ops l r) (s.put o.dst (.sl (fun _=>a) (fun _=>T.length) (fun _=>c))) k)
  (ho:o.op = .convert 9 22 x:=by rfl) (hx:s.ev x = .st (fun _=>eS T):=by rfl) (hw:wantA l s o=some true:=by cbv):bE Tryz.prog Q (FrD b rb w0 R Z e sz v rs) k8 (.at (.ops l (o::r)) s k) :=
 aOK (fun B w F K Q' hk=>by
  obtain⟨v1,w',hrun,h1,h2,h3⟩:=kU (P:=Tryz.prog) w 9 22 5 (eS T) Tryz.underlying9 Tryz.underlying22 Tryz.underlying5 (by rw[iQ];exact hn);rw[gC hT]at h1;obtain⟨a,c,rfl,hc⟩:=h1.shape;have hev:(s.act B).eval x = .string (eS T):=by rw[St.aB,hx];rfl
  unfold Oper.wp;simp only[execOp,ho,hev,hrun,Sem.run_bind,Result.andThen];have hlt:w.heap.size<w'.heap.size:=by
   obtain⟨a1,c1,e1,h4⟩:=h1.rd;injection e1 with e1 _ _
   subst e1;obtain⟨b1,o1,rfl,h5⟩:=h4 0 (by rw[aD];exact List.length_pos_iff.2 h0);cases h3;exact World.block_lt_of_cell? _ _ h5
  refine hk _ w' _ fd.b (F.fG h2 (R':=fun u=>Bytes u (.slice a T.length c) T/\w.heap.size<u.heap.size) fun u ku=>⟨h1.kept ku fun k hk2 hk3=>?_,Nat.lt_of_lt_of_le hlt ku.size⟩) (h a c w.heap.size h3);rw[h3]at hk2;cases hk2;exact Nat.lt_irrefl _ hk3) hw
end
theorem rW {l:List Nat}{a:Option Addr}{c rb:Nat}{w:World}(hB:Bytes w (.slice a l.length c) l)(hv:l = []\/(Value.slice a l.length c).ownBlock=some rb)(hr:rb<w.heap.size):Calls Tryz.prog 74 #[.slice a l.length c] w (dV l w):=by
 have F0:Fo [] (fun _=>False) w (fun v=>Bytes v (.slice a l.length c) l) w []:=Fo.start nofun fun _ bv=>hB.below bv;clear hB;refine enter (fun _=>0) [.sl (fun _=>a) (fun _=>l.length) (fun _=>c)] [] Tryz.func74 rfl rfl F0 87 rfl ?_;refine ga env (Fo.frm _ _ _ _ 0 rfl) aA ?_;refine⟨fun q=>?_,fun q=>?_⟩
 ·have hl:2048<l.length:=by have q:decide ((l.length:Int) > 2048)=true:=q;simp only[decide_eq_true_eq]at q;omega
  refine ga env (Fo.frm _ _ _ _ 0 rfl) aA ?_;refine fa env (Fo.frm _ _ _ _ 0 rfl) ?_;intro B v F;unfold dV;rw[lE,if_pos hl];exact⟨eU,rfl,fun u _=>aY.zero u,F.bel⟩
 have hl:¬2048<l.length:=by have q:decide ((l.length:Int) > 2048)=false:=q;simp only[decide_eq_false_iff_not]at q;omega
 clear q;refine ga env (Fo.frm _ _ _ _ 0 rfl) aA ?_;intro B w1 F;refine(qJ (rb:=rb) _ l w1 F.now hv (by have:=F.bel.size;omega)).mono ?_;rintro e w2 ⟨rfl,hz,hb⟩;have hwb:w.heap.size<=w1.heap.size:=F.bel.size;refine⟨.pa (fun _=>⟨w1.heap.size,0,none⟩),_,rfl,fd.b,F.toD hb 324 2 (Nat.le_refl _) hz.lt hr (jY (t:=(l,false)) hz),?_⟩;clear F hz hb F0;generalize w1.heap.size=b at hwb ⊢;clear w1 w2;have hR:eF l=eF l:=rfl
 conv at hR=>rhs;unfold eF aAz
 refine ga env fd aA ?_;refine aK (.g [.i .u64 (.l 12),.i .u64 (.l 8),.i .u64 (.l 18446744073709551615)]) (fun B v F=>rB aH rfl Tryz.underlying247 rfl rfl rfl) ?_;refine ga env fd aA ?_;refine vK 4 fun J0 hJ0=>?_;refine ga env fd aA ?_;refine aK (.i .u64 (.l 12)) (fun B v F=>iZ aH (i:=0) rfl Tryz.underlying247 rfl rfl (by rw[St.aB];rfl) (by decide) rfl) ?_;refine ga env fd aA ?_;refine dP 12 _ rfl (by decide) ?_;refine ga env fd aA ?_;refine aK (.p 1 0) (fun B v F=>kG (b:=B 1) (off:=0) (i:=0) (ei:=⟨1,false,[.int .u64 0],[],[],.int .u64,[]⟩) aH rfl Tryz.underlying247 rfl (by rw[St.aB];rfl) (by rw[St.aB];rfl) (by decide) rfl) ?_;refine ga env fd aA ?_;refine dK hJ0 fun J1 hJ1=>?_;refine ga env fd aA ?_;refine aK (.i .u64 (.l 8)) (fun B v F=>iZ aH (i:=1) rfl Tryz.underlying247 rfl rfl (by rw[St.aB];rfl) (by decide) rfl) ?_;refine ga env fd aA ?_;refine dP 8 _ rfl (by decide) ?_;refine ga env fd aA ?_;refine aK (.p 1 1) (fun B v F=>kG (b:=B 1) (off:=0) (i:=1) (ei:=⟨1,false,[.int .u64 0],[],[],.int .u64,[]⟩) aH rfl Tryz.underlying247 rfl (by rw[St.aB];rfl) (by rw[St.aB];rfl) (by decide) rfl) ?_;refine ga env fd aA ?_;refine dK hJ1 fun J2 hJ2=>?_;refine ga env fd aA ?_;refine aK (.i .u64 (.l 18446744073709551615)) (fun B v F=>iZ aH (i:=2) rfl Tryz.underlying247 rfl rfl (by rw[St.aB];rfl) (by decide) rfl) ?_;refine ga env fd aA ?_;refine dP ALL _ rfl (by decide) ?_;refine ga env fd aA ?_;refine aK (.p 1 2) (fun B v F=>kG (b:=B 1) (off:=0) (i:=2) (ei:=⟨1,false,[.int .u64 0],[],[],.int .u64,[]⟩) aH rfl Tryz.underlying247 rfl (by rw[St.aB];rfl) (by rw[St.aB];rfl) (by decide) rfl) ?_;refine ga env fd aA ?_;refine dK hJ2 fun J3 hJ3=>?_;clear hJ0 hJ1 hJ2 hJ3;have hK9:((aF 12 l:Nat):Int)<=12:=by have:=aU 12 l;omega
 have hK0:(0:Int)<=((aF 12 l:Nat):Int):=by omega
 refine ga env fd aA ?_;refine aK (.p 1 0) (fun B v F=>kG (b:=B 1) (off:=0) (i:=0) (ei:=⟨1,false,[.int .u64 0],[],[],.int .u64,[]⟩) aH rfl Tryz.underlying247 rfl (by rw[St.aB];rfl) rfl (by decide) rfl) ?_;refine ga env fd aA ?_;refine oE 30 (.i .i64 (.cv .i64 (.x fun _=>(aF 12 l:Nat)))) (.i .i64 (.x fun _=>(aF 12 l:Nat))) (fun B=>congrArg (Value.int .i64) (jP (aU 12 _) (by decide))) ?_;refine ga env fd aA ?_;refine aK (.p 1 1) (fun B v F=>kG (b:=B 1) (off:=0) (i:=1) (ei:=⟨1,false,[.int .u64 0],[],[],.int .u64,[]⟩) aH rfl Tryz.underlying247 rfl (by rw[St.aB];rfl) rfl (by decide) rfl) ?_;refine ga env fd aA ?_;refine aK (.p 1 2) (fun B v F=>kG (b:=B 1) (off:=0) (i:=2) (ei:=⟨1,false,[.int .u64 0],[],[],.int .u64,[]⟩) aH rfl Tryz.underlying247 rfl (by rw[St.aB];rfl) rfl (by decide) rfl) ?_;refine ga env fd aA ?_;generalize aF 12 l=K at hK9 hK0 hR ⊢;generalize aF 8 (nS 12 (l,false)).1=cl at hR ⊢;generalize aF ALL (nS 8 (nS 12 (l,false))).1=rq at hR ⊢;generalize nS ALL (nS 8 (nS 12 (l,false)))=s3 at hR ⊢;intro B w3 F;refine(rZ (K:Nat) w3).mono ?_;rintro e w4 ⟨rfl,hb⟩;refine⟨.t [.g [.b (.x fun _=>idB K),.b (.x fun _=>(K:Int)==2),.b (.x fun _=>(K:Int)==3),.b (.x fun _=>(K:Int)==4),.b (.x fun _=>(K:Int)==9)],.b (.x fun _=>cW K)],_,rfl,fd.b,F.call hb,?_⟩;clear F hb w3 w4;refine ga env fd aA ?_;refine⟨fun q=>?_,fun q=>?_⟩
 ·have hid:idB K=true:=by simpa [BE.den] using q
  clear q;obtain⟨hk1,hk9⟩:=aLO hid;refine ga env fd aA ?_;refine dP ALL _ rfl (by decide) ?_;refine ga env fd aA ?_;refine⟨fun q=>?_,fun q=>?_⟩
  ·have h2:(K:Int)=2:=by simpa [BE.den] using q
   clear q;refine ga env fd aA ?_;intro B w3 F;refine(rT F.z F.lt.2).mono ?_;rintro e w4 ⟨wa,wc,ca,cc,rfl,hs,hz,hk⟩;refine⟨.t [.g [.i .i64 (.x fun _=>(gX (nS ALL s3)).1.o),.sl (fun _=>wa) (fun _=>(gX (nS ALL s3)).1.w.length) (fun _=>wc),.sl (fun _=>ca) (fun _=>(gX (nS ALL s3)).1.c.length) (fun _=>cc)],.b (.x fun _=>(gX (nS ALL s3)).2.2)],_,rfl,fd.b,F.rdR hk (jY hz) hs,?_⟩;clear F hs hz hk w3 w4;have hr1:eF l=(⟨K,cl,rq,(aF ALL s3.1:Nat),0,0,(gX (nS ALL s3)).1,dS⟩,(gX (nS ALL s3)).2.1):=by rw[hR,gK,if_pos h2]
   generalize gX (nS ALL s3)=r at hr1 ⊢;generalize aF ALL s3.1=id at hr1 ⊢;refine ga env fd aA ?_;have hr0:eF l=(⟨K,cl,rq,id,0,0,r.1,dS⟩,r.2.1):=hr1;generalize hT:r.2.1=t9 at hr0 ⊢;clear hT;have HI:∀u,cE u r.1 wa r.1.w.length wc ca r.1.c.length cc/\True->aY u ⟨K,cl,rq,id,0,0,r.1,dS⟩ ⟨wa,r.1.w.length,wc,ca,r.1.c.length,cc,none,0,0⟩:=fun u h=>⟨h.1,cF.zero u,nE.1,nE.2⟩;intro B w5 F;refine(fK b _ _ w5 F.z).mono ?_;rintro e w6 ⟨rfl,rfl⟩;rcases gN t9.1 t9.2 with hE|hE
   case inr =>
    refine⟨.i .i64 (.l 20),_,by rw[hE];rfl,fd.b,F,?_⟩;clear F;refine ga env fd aA ?_;refine fa env fd ?_;intro B v F;exact dV.bad (eN hr0 hl fun h=>by have h:=h.1;simp only at h;omega) (F.kept.below (Nat.le_refl _) fun k hk=>hk ▸ hwb)
   refine⟨.i .i64 (.l 0),_,by rw[hE];rfl,fd.b,F,?_⟩;clear F;refine ga env fd aA ?_;intro B v F;refine(cH ⟨K,cl,rq,id,0,0,r.1,dS⟩ ⟨wa,r.1.w.length,wc,ca,r.1.c.length,cc,none,0,0⟩ v (HI _ F.now)).mono ?_;rintro e w7 ⟨rfl,hb⟩;cases hok:bY ⟨K,cl,rq,id,0,0,r.1,dS⟩ with
   | false =>
    refine⟨.b (.l false),_,rfl,fd.b,F.call hb,?_⟩;clear F hb;refine ga env fd aA ?_;refine fa env fd ?_;intro B v F;exact dV.bad (eN hr0 hl fun h=>by have h:=h.2;simp only at h;rw[hok]at h;cases h) (F.kept.below (Nat.le_refl _) fun k hk=>hk ▸ hwb)
   | true =>
    refine⟨.b (.l true),_,rfl,fd.b,F.call hb,?_⟩;clear F hb;refine ga env fd aA ?_;refine fa env fd ?_;intro B v F;unfold dV;rw[kE hr0 hl ⟨hE,hok⟩];exact⟨⟨wa,r.1.w.length,wc,ca,r.1.c.length,cc,none,0,0⟩,rfl,F.old.imp HI,F.kept.below (Nat.le_refl _) fun k hk=>hk ▸ hwb⟩
  have h2:¬(K:Int)=2:=by simpa [BE.den] using q
  clear q;refine ga env fd aA ?_;refine⟨fun q=>?_,fun q=>?_⟩
  ·have h3:(K:Int)=3:=by simpa [BE.den] using q
   clear q;refine ga env fd aA ?_;intro B w3 F;refine(rX F.z F.lt.2).mono ?_;rintro e w4 ⟨la,lc,rfl,hs,hz,hk⟩;refine⟨.t [.g [.i .i64 (.x fun _=>(gL (nS ALL s3)).1.c),.sl (fun _=>la) (fun _=>(gL (nS ALL s3)).1.l.length) (fun _=>lc),.i .i64 (.x fun _=>(gL (nS ALL s3)).1.r),.i .i64 (.x fun _=>(gL (nS ALL s3)).1.b)],.b (.x fun _=>(gL (nS ALL s3)).2.2)],_,rfl,fd.b,F.rdR hk (jY hz) hs,?_⟩;clear F hs hz hk w3 w4;have hr1:eF l=(⟨K,cl,rq,(aF ALL s3.1:Nat),0,0,dR,(gL (nS ALL s3)).1⟩,(gL (nS ALL s3)).2.1):=by rw[hR,gK,if_neg h2,if_pos h3]
   generalize gL (nS ALL s3)=r at hr1 ⊢;generalize aF ALL s3.1=id at hr1 ⊢;refine ga env fd aA ?_;have hr0:eF l=(⟨K,cl,rq,id,0,0,dR,r.1⟩,r.2.1):=hr1;generalize hT:r.2.1=t9 at hr0 ⊢;clear hT;have HI:∀u,cF u r.1 la r.1.l.length lc/\True->aY u ⟨K,cl,rq,id,0,0,dR,r.1⟩ ⟨none,0,0,none,0,0,la,r.1.l.length,lc⟩:=fun u h=>⟨cE.zero u,h.1,nE.1,nE.2⟩;intro B w5 F;refine(fK b _ _ w5 F.z).mono ?_;rintro e w6 ⟨rfl,rfl⟩;rcases gN t9.1 t9.2 with hE|hE
   case inr =>
    refine⟨.i .i64 (.l 20),_,by rw[hE];rfl,fd.b,F,?_⟩;clear F;refine ga env fd aA ?_;refine fa env fd ?_;intro B v F;exact dV.bad (eN hr0 hl fun h=>by have h:=h.1;simp only at h;omega) (F.kept.below (Nat.le_refl _) fun k hk=>hk ▸ hwb)
   refine⟨.i .i64 (.l 0),_,by rw[hE];rfl,fd.b,F,?_⟩;clear F;refine ga env fd aA ?_;intro B v F;refine(cH ⟨K,cl,rq,id,0,0,dR,r.1⟩ ⟨none,0,0,none,0,0,la,r.1.l.length,lc⟩ v (HI _ F.now)).mono ?_;rintro e w7 ⟨rfl,hb⟩;cases hok:bY ⟨K,cl,rq,id,0,0,dR,r.1⟩ with
   | false =>
    refine⟨.b (.l false),_,rfl,fd.b,F.call hb,?_⟩;clear F hb;refine ga env fd aA ?_;refine fa env fd ?_;intro B v F;exact dV.bad (eN hr0 hl fun h=>by have h:=h.2;simp only at h;rw[hok]at h;cases h) (F.kept.below (Nat.le_refl _) fun k hk=>hk ▸ hwb)
   | true =>
    refine⟨.b (.l true),_,rfl,fd.b,F.call hb,?_⟩;clear F hb;refine ga env fd aA ?_;refine fa env fd ?_;intro B v F;unfold dV;rw[kE hr0 hl ⟨hE,hok⟩];exact⟨⟨none,0,0,none,0,0,la,r.1.l.length,lc⟩,rfl,F.old.imp HI,F.kept.below (Nat.le_refl _) fun k hk=>hk ▸ hwb⟩
  have h3:¬(K:Int)=3:=by simpa [BE.den] using q
  clear q;refine ga env fd aA ?_;refine⟨fun q=>?_,fun q=>?_⟩
  ·have h4:(K:Int)=4:=by simpa [BE.den] using q
   clear q;refine ga env fd aA ?_;refine dP 15 _ rfl (by decide) ?_;have hr1:eF l=(⟨K,cl,rq,(aF ALL s3.1:Nat),(aF 15 (nS ALL s3).1:Nat),0,dR,dS⟩,nS 15 (nS ALL s3)):=by rw[hR,gK,if_neg h2,if_neg h3,if_pos h4]
   have hct:IntKind.i64.wrap ((aF 15 (nS ALL s3).1:Nat):Int)=(aF 15 (nS ALL s3).1:Nat):=jP (aU 15 _) (by decide);rw[<- hct]at hr1;generalize aF 15 (nS ALL s3).1=ct at hr1 ⊢;generalize aF ALL s3.1=id at hr1 ⊢;generalize nS 15 (nS ALL s3)=t8 at hr1 ⊢;refine ga env fd aA ?_;have hr0:eF l=(⟨K,cl,rq,id,IntKind.i64.wrap ct,0,dR,dS⟩,t8):=hr1;generalize hT:t8=t9 at hr0 ⊢;clear hT;have HI:∀u,True->aY u ⟨K,cl,rq,id,IntKind.i64.wrap ct,0,dR,dS⟩ eU:=fun u _=>⟨cE.zero u,cF.zero u,nE.1,nE.2⟩;intro B w5 F;refine(fK b _ _ w5 F.z).mono ?_;rintro e w6 ⟨rfl,rfl⟩;rcases gN t9.1 t9.2 with hE|hE
   case inr =>
    refine⟨.i .i64 (.l 20),_,by rw[hE];rfl,fd.b,F,?_⟩;clear F;refine ga env fd aA ?_;refine fa env fd ?_;intro B v F;exact dV.bad (eN hr0 hl fun h=>by have h:=h.1;simp only at h;omega) (F.kept.below (Nat.le_refl _) fun k hk=>hk ▸ hwb)
   refine⟨.i .i64 (.l 0),_,by rw[hE];rfl,fd.b,F,?_⟩;clear F;refine ga env fd aA ?_;intro B v F;refine(cH ⟨K,cl,rq,id,IntKind.i64.wrap ct,0,dR,dS⟩ eU v (HI _ F.now)).mono ?_;rintro e w7 ⟨rfl,hb⟩;cases hok:bY ⟨K,cl,rq,id,IntKind.i64.wrap ct,0,dR,dS⟩ with
   | false =>
    refine⟨.b (.l false),_,rfl,fd.b,F.call hb,?_⟩;clear F hb;refine ga env fd aA ?_;refine fa env fd ?_;intro B v F;exact dV.bad (eN hr0 hl fun h=>by have h:=h.2;simp only at h;rw[hok]at h;cases h) (F.kept.below (Nat.le_refl _) fun k hk=>hk ▸ hwb)
   | true =>
    refine⟨.b (.l true),_,rfl,fd.b,F.call hb,?_⟩;clear F hb;refine ga env fd aA ?_;refine fa env fd ?_;intro B v F;unfold dV;rw[kE hr0 hl ⟨hE,hok⟩];exact⟨eU,rfl,F.old.imp HI,F.kept.below (Nat.le_refl _) fun k hk=>hk ▸ hwb⟩
  have h4:¬(K:Int)=4:=by simpa [BE.den] using q
  clear q;refine ga env fd aA ?_;refine⟨fun q=>absurd (by simpa [BE.den] using q) hk9,fun q=>?_⟩;clear q;have hr1:eF l=(⟨K,cl,rq,(aF ALL s3.1:Nat),0,0,dR,dS⟩,nS ALL s3):=by rw[hR,gK,if_neg h2,if_neg h3,if_neg h4,if_neg hk9,if_neg (by omega:¬(K:Int)=1)]
  generalize aF ALL s3.1=id at hr1 ⊢;generalize nS ALL s3=t8 at hr1 ⊢;refine ga env fd aA ?_;have hr0:eF l=(⟨K,cl,rq,id,0,0,dR,dS⟩,t8):=hr1;generalize hT:t8=t9 at hr0 ⊢;clear hT;have HI:∀u,True->aY u ⟨K,cl,rq,id,0,0,dR,dS⟩ eU:=fun u _=>⟨cE.zero u,cF.zero u,nE.1,nE.2⟩;intro B w5 F;refine(fK b _ _ w5 F.z).mono ?_;rintro e w6 ⟨rfl,rfl⟩;rcases gN t9.1 t9.2 with hE|hE
  case inr =>
   refine⟨.i .i64 (.l 20),_,by rw[hE];rfl,fd.b,F,?_⟩;clear F;refine ga env fd aA ?_;refine fa env fd ?_;intro B v F;exact dV.bad (eN hr0 hl fun h=>by have h:=h.1;simp only at h;omega) (F.kept.below (Nat.le_refl _) fun k hk=>hk ▸ hwb)
  refine⟨.i .i64 (.l 0),_,by rw[hE];rfl,fd.b,F,?_⟩;clear F;refine ga env fd aA ?_;intro B v F;refine(cH ⟨K,cl,rq,id,0,0,dR,dS⟩ eU v (HI _ F.now)).mono ?_;rintro e w7 ⟨rfl,hb⟩;cases hok:bY ⟨K,cl,rq,id,0,0,dR,dS⟩ with
  | false =>
   refine⟨.b (.l false),_,rfl,fd.b,F.call hb,?_⟩;clear F hb;refine ga env fd aA ?_;refine fa env fd ?_;intro B v F;exact dV.bad (eN hr0 hl fun h=>by have h:=h.2;simp only at h;rw[hok]at h;cases h) (F.kept.below (Nat.le_refl _) fun k hk=>hk ▸ hwb)
  | true =>
   refine⟨.b (.l true),_,rfl,fd.b,F.call hb,?_⟩;clear F hb;refine ga env fd aA ?_;refine fa env fd ?_;intro B v F;unfold dV;rw[kE hr0 hl ⟨hE,hok⟩];exact⟨eU,rfl,F.old.imp HI,F.kept.below (Nat.le_refl _) fun k hk=>hk ▸ hwb⟩
 have hid:¬idB K=true:=by simpa [BE.den] using q
 clear q;have hk:=aLN hK0 hK9 hid;refine ga env fd aA ?_;refine⟨fun q=>absurd (show (K:Int)=2 by simpa [BE.den] using q) (by omega),fun q=>?_⟩;clear q;refine ga env fd aA ?_;refine⟨fun q=>absurd (show (K:Int)=3 by simpa [BE.den] using q) (by omega),fun q=>?_⟩;clear q;refine ga env fd aA ?_;refine⟨fun q=>absurd (show (K:Int)=4 by simpa [BE.den] using q) (by omega),fun q=>?_⟩;clear q;refine ga env fd aA ?_;refine⟨fun q=>?_,fun q=>?_⟩
 ·have h9:(K:Int)=9:=by simpa [BE.den] using q
  clear q;refine ga env fd aA ?_;refine xG ?_;have hr1:eF l=(⟨K,cl,rq,0,0,iY s3.1,dR,dS⟩,iS s3):=by rw[hR,gK,if_neg (by omega),if_neg (by omega),if_neg (by omega),if_pos h9]
  have hi:=aH6 s3.1;generalize iY s3.1=at1 at hr1 hi ⊢;generalize iS s3=t8 at hr1 ⊢;refine ga env fd aA ?_;have hr0:eF l=(⟨K,cl,rq,0,0,at1,dR,dS⟩,t8):=hr1;generalize hT:t8=t9 at hr0 ⊢;clear hT;have HI:∀u,True->aY u ⟨K,cl,rq,0,0,at1,dR,dS⟩ eU:=fun u _=>⟨cE.zero u,cF.zero u,hi.1,hi.2⟩;intro B w5 F;refine(fK b _ _ w5 F.z).mono ?_;rintro e w6 ⟨rfl,rfl⟩;rcases gN t9.1 t9.2 with hE|hE
  case inr =>
   refine⟨.i .i64 (.l 20),_,by rw[hE];rfl,fd.b,F,?_⟩;clear F;refine ga env fd aA ?_;refine fa env fd ?_;intro B v F;exact dV.bad (eN hr0 hl fun h=>by have h:=h.1;simp only at h;omega) (F.kept.below (Nat.le_refl _) fun k hk=>hk ▸ hwb)
  refine⟨.i .i64 (.l 0),_,by rw[hE];rfl,fd.b,F,?_⟩;clear F;refine ga env fd aA ?_;intro B v F;refine(cH ⟨K,cl,rq,0,0,at1,dR,dS⟩ eU v (HI _ F.now)).mono ?_;rintro e w7 ⟨rfl,hb⟩;cases hok:bY ⟨K,cl,rq,0,0,at1,dR,dS⟩ with
  | false =>
   refine⟨.b (.l false),_,rfl,fd.b,F.call hb,?_⟩;clear F hb;refine ga env fd aA ?_;refine fa env fd ?_;intro B v F;exact dV.bad (eN hr0 hl fun h=>by have h:=h.2;simp only at h;rw[hok]at h;cases h) (F.kept.below (Nat.le_refl _) fun k hk=>hk ▸ hwb)
  | true =>
   refine⟨.b (.l true),_,rfl,fd.b,F.call hb,?_⟩;clear F hb;refine ga env fd aA ?_;refine fa env fd ?_;intro B v F;unfold dV;rw[kE hr0 hl ⟨hE,hok⟩];exact⟨eU,rfl,F.old.imp HI,F.kept.below (Nat.le_refl _) fun k hk=>hk ▸ hwb⟩
 have h9:¬(K:Int)=9:=by simpa [BE.den] using q
 clear q;refine ga env fd aA ?_;by_cases h1:(K:Int)=1
 ·have hr1:eF l=(⟨K,cl,rq,0,0,0,dR,dS⟩,s3):=by rw[hR,gK,if_neg (by omega),if_neg (by omega),if_neg (by omega),if_neg h9,if_pos h1]
  have hr0:eF l=(⟨K,cl,rq,0,0,0,dR,dS⟩,s3):=hr1;generalize hT:s3=t9 at hr0 ⊢;have HI:∀u,True->aY u ⟨K,cl,rq,0,0,0,dR,dS⟩ eU:=fun u _=>⟨cE.zero u,cF.zero u,nE.1,nE.2⟩;intro B w5 F;refine(fK b _ _ w5 F.z).mono ?_;rintro e w6 ⟨rfl,rfl⟩;rcases gN t9.1 t9.2 with hE|hE
  case inr =>
   refine⟨.i .i64 (.l 20),_,by rw[hE];rfl,fd.b,F,?_⟩;clear F;refine ga env fd aA ?_;refine fa env fd ?_;intro B v F;exact dV.bad (eN hr0 hl fun h=>by have h:=h.1;simp only at h;omega) (F.kept.below (Nat.le_refl _) fun k hk=>hk ▸ hwb)
  refine⟨.i .i64 (.l 0),_,by rw[hE];rfl,fd.b,F,?_⟩;clear F;refine ga env fd aA ?_;intro B v F;refine(cH ⟨K,cl,rq,0,0,0,dR,dS⟩ eU v (HI _ F.now)).mono ?_;rintro e w7 ⟨rfl,hb⟩;cases hok:bY ⟨K,cl,rq,0,0,0,dR,dS⟩ with
  | false =>
   refine⟨.b (.l false),_,rfl,fd.b,F.call hb,?_⟩;clear F hb;refine ga env fd aA ?_;refine fa env fd ?_;intro B v F;exact dV.bad (eN hr0 hl fun h=>by have h:=h.2;simp only at h;rw[hok]at h;cases h) (F.kept.below (Nat.le_refl _) fun k hk=>hk ▸ hwb)
  | true =>
   refine⟨.b (.l true),_,rfl,fd.b,F.call hb,?_⟩;clear F hb;refine ga env fd aA ?_;refine fa env fd ?_;intro B v F;unfold dV;rw[kE hr0 hl ⟨hE,hok⟩];exact⟨eU,rfl,F.old.imp HI,F.kept.below (Nat.le_refl _) fun k hk=>hk ▸ hwb⟩
 have hr1:lE l=(fY,20):=eN (r:=(⟨K,cl,rq,(aF ALL s3.1:Nat),0,0,dR,dS⟩,nS ALL s3)) (by rw[hR,gK,if_neg (by omega),if_neg (by omega),if_neg (by omega),if_neg h9,if_neg h1]) hl (fun h=>by
  have e:bY ⟨K,cl,rq,(aF ALL s3.1:Nat),0,0,dR,dS⟩=false:=fX (by show cW K=false;unfold cW;rw[decide_eq_false (by omega:¬1<=(K:Int))];rfl);rw[e]at h;cases h.2)
 intro B w5 F;refine(fK b _ _ w5 F.z).mono ?_;rintro e w6 ⟨rfl,rfl⟩;rcases gN s3.1 s3.2 with hE|hE
 case inr =>
  refine⟨.i .i64 (.l 20),_,by rw[hE];rfl,fd.b,F,?_⟩;clear F;refine ga env fd aA ?_;refine fa env fd ?_;intro B v F;exact dV.bad hr1 (F.kept.below (Nat.le_refl _) fun k hk=>hk ▸ hwb)
 refine⟨.i .i64 (.l 0),_,by rw[hE];rfl,fd.b,F,?_⟩;clear F;refine ga env fd aA ?_;intro B v F;refine(cH ⟨K,cl,rq,0,0,0,dR,dS⟩ eU v ⟨cE.zero v,cF.zero v,nE.1,nE.2⟩).mono ?_;rintro e w7 ⟨rfl,hb⟩;refine⟨.b (.l false),_,by rw[fX (by show cW K=false;unfold cW;rw[decide_eq_false (by omega:¬1<=(K:Int))];rfl)];rfl,fd.b,F.call hb,?_⟩;clear F hb;refine ga env fd aA ?_;refine fa env fd ?_;intro B v F;exact dV.bad hr1 (F.kept.below (Nat.le_refl _) fun k hk=>hk ▸ hwb)

def plGt:Nat->Option Pl
 | 13=>some ⟨[0,1,0,4,12,0,44,108,252,508,1023,2047,4095],472,[.h [0,1,2,5],.o 3,.h [4],.o 6,.h [7,8],.o 9,.o 10,.h [11],.o 12],[]⟩
 | _=>none
def aMg:List AV:=[.i .i64 (.l 0),.i .i64 (.l 0),.i .i64 (.l 0),.i .i64 (.l 0),.i .u64 (.l 0),.i .i64 (.l 0),.i .u64 (.l 0),.i .u64 (.l 0),.i .u64 (.l 0),.i .i64 (.l 0),.i .i64 (.l 0),.i .i64 (.l 0),.v (.slice none 0 0),.v (.slice none 0 0),.i .i64 (.l 0),.v (.slice none 0 0),.i .i64 (.l 0),.i .i64 (.l 0),.v (.slice none 0 0)]
def rK {m1 m2 n:Nat}{t0:RS}(b N:Nat)(i:PI m1 m2 n t0):List (Nat × AV):=[(0,.pa (fun _=>⟨b,0,none⟩)),(2,.p 0 0),(3,.f (.func 23) [.pa (fun _=>⟨b,0,none⟩)] []),(44,.i .u64 (.x fun _=>(N:Nat))),(45,.i .u64 (.x fun _=>(i.j:Int)))]
def getD {m1 m2 n:Nat}{t0:RS}(b N:Nat)(i:PI m1 m2 n t0):List (Nat × AV):=[(0,.pa (fun _=>⟨b,0,none⟩)),(2,.p 0 0),(3,.p 1 0),(7,.i .i64 (.x fun _=>(N:Nat))),(8,.i .i64 (.x fun _=>(i.j:Int)))]
theorem aIE {b rb:Nat}{w:World}{t:RS}(h:bF w b rb t.1 t.2)(hr:rb<w.heap.size):Calls Tryz.prog 26 #[.pointer (some ⟨b,0,none⟩)] w (aKA b rb t w):=by
 have F0:FrD b rb w (fun _=>True) (Rz b rb t) 112 2 (.slice none 0 0) [] w []:=FrD.start w h.lt hr _ _ (Sf.all _ _) fun u bu=>h.below bu;have hlt:=aLY h;refine enter (F:=FrD b rb w (fun _=>True) (Rz b rb t) 112 2 (.slice none 0 0) []) (fun _=>0) [.pa (fun _=>⟨b,0,none⟩)] [] Tryz.func26 rfl rfl F0 60 rfl ?_;clear F0 h;refine ga env fd plGt ?_;refine dP 20 _ rfl (by decide) ?_;refine gn 1 env fd plGt ?_;refine oE 11 (.i .i64 (.cv .i64 (.x fun _=>(aF 20 t.1:Nat)))) (.i .i64 (.x fun _=>(aF 20 t.1:Nat))) (fun B=>congrArg (Value.int .i64) (jP (aU 20 _) (by decide))) ?_;refine ga env fd plGt ?_;refine dP 8 _ rfl (by decide) ?_;refine gn 1 env fd plGt ?_;refine oE 14 (.i .i64 (.cv .i64 (.x fun _=>(aF 8 (nS 20 t).1:Nat)))) (.i .i64 (.x fun _=>(aF 8 (nS 20 t).1:Nat))) (fun B=>congrArg (Value.int .i64) (jP (aU 8 _) (by decide))) ?_;refine ga env fd plGt ?_;refine dP 7 _ rfl (by decide) ?_;refine gn 1 env fd plGt ?_;refine oE 17 (.i .i64 (.cv .i64 (.x fun _=>(aF 7 (nS 8 (nS 20 t)).1:Nat)))) (.i .i64 (.x fun _=>(aF 7 (nS 8 (nS 20 t)).1:Nat))) (fun B=>congrArg (Value.int .i64) (jP (aU 7 _) (by decide))) ?_;refine ga env fd plGt ?_;refine xG ?_;refine ga env fd plGt ?_;refine dP ALL _ rfl (by decide) ?_;refine ga env fd plGt ?_;refine aMG ?_;have hR:lC t=lC t:=rfl
 conv at hR=>rhs;unfold lC
 unfold aKA;rw[hR];clear hR;generalize aF 20 t.1=xk;generalize aF 8 (nS 20 t).1=xw;generalize aF 7 (nS 8 (nS 20 t)).1=xt;generalize iY (nS 7 (nS 8 (nS 20 t))).1=xn;generalize aF ALL (iS (nS 7 (nS 8 (nS 20 t)))).1=xi;have h5:∀c ∈ fR 2048 (sO t).1,c<256:=fun c hc=>hlt c (rR (rR (rR (aLM (rR (aKr c hc))))));generalize hs5:sO t=s5 at h5 ⊢;unfold sO at hs5;rw[hs5];clear hs5;have hC:sP s5=sP s5:=rfl
 conv at hC=>rhs;unfold sP
 have hl5:=aKq 2048 s5.1;generalize hT:fR 2048 s5.1=T at hC h5 hl5 ⊢;clear hT hlt;refine ga env fd plGt ?_;refine⟨fun q=>?_,fun q=>?_⟩
 ·have h0:T ≠ []:=fun e=>by
   subst e;have q:(!((eS []).toList==(eS []).toList))=true:=q;rw[zQ rfl]at q;cases q
  clear q;rw[if_neg h0]at hC;refine ga env fd plGt ?_;refine aMk T _ h5 (Nat.le_trans hl5 (by decide)) h0 ?_;intro ta tc kb hkb;refine ga env fd plGt ?_;intro B v F;refine(rW F.now.1.1 (.inr hkb) F.now.1.2).mono ?_;rintro e w2 ⟨A,rfl,hs,hb⟩;generalize hCR:lE T=cr at hC hs ⊢;obtain⟨C,e⟩:=cr;refine⟨.t [.g (bX (.x fun _=>C.k) C A),.i .i64 (.x fun _=>e)],_,rfl,fd.b,F.fG hb hs,?_⟩;clear F hb hs hCR;refine ga env fd plGt ?_;refine⟨fun q=>?_,fun q=>?_⟩
  ·have h1:¬e=0:=by simpa [BE.den,cmpB,IE.den] using q
   clear q;rw[if_neg h1]at hC;refine ga env fd plGt ?_;refine oN ?_;refine ga env fd plGt ?_;refine dP 16 _ rfl (by decide) ?_;refine ga env fd plGt ?_;rw[hC];have hN:aF 16 (([],true):RS).1<=16:=aU _ _;have hA:pH (([],true):RS)=prS 65535 4294967295 (aF 16 (([],true):RS).1) (nS 16 (([],true):RS)):=rfl;simp only;generalize pH (([],true):RS)=at7 at hA ⊢;generalize aF 16 (([],true):RS).1=N at hN hA ⊢;generalize nS 16 (([],true):RS)=t8 at hA ⊢;refine iH (fun i:PI 65535 4294967295 N t8=>FrD b rb w (fun u=>aY u C A/\(Bytes u (.slice ta T.length tc) T/\kb<u.heap.size)/\True) (Rz b rb i.t) 112 2 (.slice i.a i.j i.c) (i.L.map trV)) (fun i=>⟨mkT i.x (rK b N i) 0 61,[wR (.x fun _=>(xk:Int)) (.x fun _=>(xw:Int)) (.x fun _=>xn) (.x fun _=>(xt:Int)) (.x fun _=>(xi:Int)) C A (.sl (fun _=>i.a) (fun _=>i.j) (fun _=>i.c))]⟩) (fun i=>N-i.j) 61 (fun B w1 F=>?_) ?_
   ·exact⟨PI.zero _ _ _ _ _,rK b N (PI.zero 65535 4294967295 N t8 fun _=>undef),rfl,⟨rfl,rfl,rfl,rfl,rfl,trivial⟩,FrD.less (L:=[(B 0,_)]) F⟩
   intro i J hJ;refine ga env fd plGt ?_;refine⟨fun q=>?_,fun q=>?_⟩
   ·have hlt:i.j<N:=by simpa [BE.den,cmpB,IE.den] using q
    clear q;refine ga env fd plGt ?_;refine dP 65535 _ rfl (by decide) ?_;refine ga env fd plGt ?_;refine dP 4294967295 _ rfl (by decide) ?_;refine ga env fd plGt ?_;have hlen:(i.L.map trV).length=i.j:=by rw[List.length_map,i.hL]
    refine mG mQ hlen (Nat.le_trans (Nat.le_of_lt hlt) (Nat.le_trans hN (by decide))) ?_;intro a' g c';refine ga env fd plGt ?_;refine jT 61 hJ (fun B v F=>?_);refine⟨i.next hlt a' c' _,rK b N (i.next hlt a' c' fun _=>undef),by show N-(i.j+1)<N-i.j;omega,rfl,⟨rfl,rfl,rfl,rfl,?_,trivial⟩,?_⟩
    ·simp only[AV.den,IE.den,getT];rw[show ((i.j:Nat):Int)+1=((i.j+1:Nat):Int) from rfl,wrU (by omega)];rfl
    ·have e:(i.next hlt a' c' (fun _=>undef)).L.map trV=i.L.map trV ++ [AV.denL (fun _=>0) [.i .u16 (.cv .u16 (.x fun _=>(aF 65535 i.t.1:Nat))),.i .u32 (.cv .u32 (.x fun _=>(aF 4294967295 (nS 65535 i.t).1:Nat)))]]:=by
      simp only[PI.next,List.map_append,List.map_cons,List.map_nil,trV,AV.denL,AV.den,IE.den];rw[aMd (aU 65535 _),aMe (aU 4294967295 _)]
     show FrD b rb w (fun u=>aY u C A/\(Bytes u (.slice ta T.length tc) T/\kb<u.heap.size)/\True) (Rz b rb (nS 4294967295 (nS 65535 i.t))) 112 2 (.slice a' (i.j+1) c') ((i.next hlt a' c' (fun _=>undef)).L.map trV) v _;rw[e];exact F
   have hje:i.j=N:=by
    have:¬i.j<N:=by simpa [BE.den,cmpB,IE.den] using q
    have:=i.hj;omega
   clear q hJ;obtain⟨hl,ht⟩:=i.last hje;rw[<- hA]at hl ht;have hjl:=i.hL;rw[ht,hl,<- hjl,hl];have hN2:at7.1.length<=16:=by rw[<- hl,hjl,hje];exact hN
   generalize i.a=a0;generalize i.c=c0;clear hl ht hjl hje hA hN;refine ga env fd plGt ?_;refine fa env fd ?_;intro B v F;have F:=F.qN 112 2;exact⟨⟨A,a0,at7.1.length,c0⟩,rfl,F.old.imp fun u h=>⟨h.2.1,aM.fU h.1,rfl,Nat.le_trans hN2 (by decide)⟩,F.z,F.kept⟩
  have h1:e=0:=by simpa [BE.den,cmpB,IE.den] using q
  clear q;rw[if_pos h1]at hC;refine ga env fd plGt ?_;refine dP 16 _ rfl (by decide) ?_;refine ga env fd plGt ?_;rw[hC];have hN:aF 16 (iU s5).1<=16:=aU _ _;have hA:pH (iU s5)=prS 65535 4294967295 (aF 16 (iU s5).1) (nS 16 (iU s5)):=rfl;simp only;generalize pH (iU s5)=at7 at hA ⊢;generalize aF 16 (iU s5).1=N at hN hA ⊢;generalize nS 16 (iU s5)=t8 at hA ⊢;refine iH (fun i:PI 65535 4294967295 N t8=>FrD b rb w (fun u=>aY u C A/\(Bytes u (.slice ta T.length tc) T/\kb<u.heap.size)/\True) (Rz b rb i.t) 112 2 (.slice i.a i.j i.c) (i.L.map trV)) (fun i=>⟨mkT i.x (rK b N i) 0 61,[wR (.x fun _=>(xk:Int)) (.x fun _=>(xw:Int)) (.x fun _=>xn) (.x fun _=>(xt:Int)) (.x fun _=>(xi:Int)) C A (.sl (fun _=>i.a) (fun _=>i.j) (fun _=>i.c))]⟩) (fun i=>N-i.j) 61 (fun B w1 F=>?_) ?_
  ·exact⟨PI.zero _ _ _ _ _,rK b N (PI.zero 65535 4294967295 N t8 fun _=>undef),rfl,⟨rfl,rfl,rfl,rfl,rfl,trivial⟩,FrD.less (L:=[(B 0,_)]) F⟩
  intro i J hJ;refine ga env fd plGt ?_;refine⟨fun q=>?_,fun q=>?_⟩
  ·have hlt:i.j<N:=by simpa [BE.den,cmpB,IE.den] using q
   clear q;refine ga env fd plGt ?_;refine dP 65535 _ rfl (by decide) ?_;refine ga env fd plGt ?_;refine dP 4294967295 _ rfl (by decide) ?_;refine ga env fd plGt ?_;have hlen:(i.L.map trV).length=i.j:=by rw[List.length_map,i.hL]
   refine mG mQ hlen (Nat.le_trans (Nat.le_of_lt hlt) (Nat.le_trans hN (by decide))) ?_;intro a' g c';refine ga env fd plGt ?_;refine jT 61 hJ (fun B v F=>?_);refine⟨i.next hlt a' c' _,rK b N (i.next hlt a' c' fun _=>undef),by show N-(i.j+1)<N-i.j;omega,rfl,⟨rfl,rfl,rfl,rfl,?_,trivial⟩,?_⟩
   ·simp only[AV.den,IE.den,getT];rw[show ((i.j:Nat):Int)+1=((i.j+1:Nat):Int) from rfl,wrU (by omega)];rfl
   ·have e:(i.next hlt a' c' (fun _=>undef)).L.map trV=i.L.map trV ++ [AV.denL (fun _=>0) [.i .u16 (.cv .u16 (.x fun _=>(aF 65535 i.t.1:Nat))),.i .u32 (.cv .u32 (.x fun _=>(aF 4294967295 (nS 65535 i.t).1:Nat)))]]:=by
     simp only[PI.next,List.map_append,List.map_cons,List.map_nil,trV,AV.denL,AV.den,IE.den];rw[aMd (aU 65535 _),aMe (aU 4294967295 _)]
    show FrD b rb w (fun u=>aY u C A/\(Bytes u (.slice ta T.length tc) T/\kb<u.heap.size)/\True) (Rz b rb (nS 4294967295 (nS 65535 i.t))) 112 2 (.slice a' (i.j+1) c') ((i.next hlt a' c' (fun _=>undef)).L.map trV) v _;rw[e];exact F
  have hje:i.j=N:=by
   have:¬i.j<N:=by simpa [BE.den,cmpB,IE.den] using q
   have:=i.hj;omega
  clear q hJ;obtain⟨hl,ht⟩:=i.last hje;rw[<- hA]at hl ht;have hjl:=i.hL;rw[ht,hl,<- hjl,hl];have hN2:at7.1.length<=16:=by rw[<- hl,hjl,hje];exact hN
  generalize i.a=a0;generalize i.c=c0;clear hl ht hjl hje hA hN;refine ga env fd plGt ?_;refine fa env fd ?_;intro B v F;have F:=F.qN 112 2;exact⟨⟨A,a0,at7.1.length,c0⟩,rfl,F.old.imp fun u h=>⟨h.2.1,aM.fU h.1,rfl,Nat.le_trans hN2 (by decide)⟩,F.z,F.kept⟩
 have h0:T = []:=by
  by_cases h0:T = []
  ·exact h0
  ·have q:(!((eS T).toList==(eS []).toList))=false:=q;rw[aL3 (fun e=>h0 (aI1 h5 nofun e))]at q;cases q
 clear q;rw[if_pos h0]at hC;refine ga env fd plGt ?_;refine dP 16 _ rfl (by decide) ?_;refine ga env fd plGt ?_;rw[hC];have hN:aF 16 (iU s5).1<=16:=aU _ _;have hA:pH (iU s5)=prS 65535 4294967295 (aF 16 (iU s5).1) (nS 16 (iU s5)):=rfl;simp only;generalize pH (iU s5)=at7 at hA ⊢;generalize aF 16 (iU s5).1=N at hN hA ⊢;generalize nS 16 (iU s5)=t8 at hA ⊢;refine iH (fun i:PI 65535 4294967295 N t8=>FrD b rb w (fun u=>True) (Rz b rb i.t) 112 2 (.slice i.a i.j i.c) (i.L.map trV)) (fun i=>⟨mkT i.x (rK b N i) 0 61,[wR (.x fun _=>(xk:Int)) (.x fun _=>(xw:Int)) (.x fun _=>xn) (.x fun _=>(xt:Int)) (.x fun _=>(xi:Int)) fY eU (.sl (fun _=>i.a) (fun _=>i.j) (fun _=>i.c))]⟩) (fun i=>N-i.j) 61 (fun B w1 F=>?_) ?_
 ·exact⟨PI.zero _ _ _ _ _,rK b N (PI.zero 65535 4294967295 N t8 fun _=>undef),rfl,⟨rfl,rfl,rfl,rfl,rfl,trivial⟩,F⟩
 intro i J hJ;refine ga env fd plGt ?_;refine⟨fun q=>?_,fun q=>?_⟩
 ·have hlt:i.j<N:=by simpa [BE.den,cmpB,IE.den] using q
  clear q;refine ga env fd plGt ?_;refine dP 65535 _ rfl (by decide) ?_;refine ga env fd plGt ?_;refine dP 4294967295 _ rfl (by decide) ?_;refine ga env fd plGt ?_;have hlen:(i.L.map trV).length=i.j:=by rw[List.length_map,i.hL]
  refine mG mQ hlen (Nat.le_trans (Nat.le_of_lt hlt) (Nat.le_trans hN (by decide))) ?_;intro a' g c';refine ga env fd plGt ?_;refine jT 61 hJ (fun B v F=>?_);refine⟨i.next hlt a' c' _,rK b N (i.next hlt a' c' fun _=>undef),by show N-(i.j+1)<N-i.j;omega,rfl,⟨rfl,rfl,rfl,rfl,?_,trivial⟩,?_⟩
  ·simp only[AV.den,IE.den,getT];rw[show ((i.j:Nat):Int)+1=((i.j+1:Nat):Int) from rfl,wrU (by omega)];rfl
  ·have e:(i.next hlt a' c' (fun _=>undef)).L.map trV=i.L.map trV ++ [AV.denL (fun _=>0) [.i .u16 (.cv .u16 (.x fun _=>(aF 65535 i.t.1:Nat))),.i .u32 (.cv .u32 (.x fun _=>(aF 4294967295 (nS 65535 i.t).1:Nat)))]]:=by
    simp only[PI.next,List.map_append,List.map_cons,List.map_nil,trV,AV.denL,AV.den,IE.den];rw[aMd (aU 65535 _),aMe (aU 4294967295 _)]
   show FrD b rb w (fun u=>True) (Rz b rb (nS 4294967295 (nS 65535 i.t))) 112 2 (.slice a' (i.j+1) c') ((i.next hlt a' c' (fun _=>undef)).L.map trV) v _;rw[e];exact F
 have hje:i.j=N:=by
  have:¬i.j<N:=by simpa [BE.den,cmpB,IE.den] using q
  have:=i.hj;omega
 clear q hJ;obtain⟨hl,ht⟩:=i.last hje;rw[<- hA]at hl ht;have hjl:=i.hL;rw[ht,hl,<- hjl,hl];have hN2:at7.1.length<=16:=by rw[<- hl,hjl,hje];exact hN
 generalize i.a=a0;generalize i.c=c0;clear hl ht hjl hje hA hN;refine ga env fd plGt ?_;refine fa env fd ?_;intro B v F;have F:=F.qN 112 2;exact⟨⟨eU,a0,at7.1.length,c0⟩,rfl,F.old.imp fun u h=>⟨aY.zero u,aM.fU h.1,rfl,Nat.le_trans hN2 (by decide)⟩,F.z,F.kept⟩
