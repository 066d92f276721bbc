/- For scbodies_law_holds. -/
import Derived.Test.YtgeihgombjbkbaaGreatSbb22
import Derived.Test.YtgeihgombjbkbaaGreatSbb27
import Derived.Test.YtgeihgombjbkbaaGreatSbb23
set_option maxHeartbeats 16000000
set_option maxRecDepth 100000
namespace Go.Proofs.Own
open Go Go.RowKit
section
variable {P:Program} {tt:TypeId->Option TI} {s:St} {B:Nat->Nat} {w:World}
theorem rZ (hT:eE P tt){o:Oper}{t ft:TypeId}{x:Operand}{j b off k:Nat}{i fi:TI}(ho:o.op = .fieldAddr t x j)(hx:(s.act B).eval x = .pointer (some ⟨b,off,none⟩))(hi:tt t=some i)(hk:getN i.fs j=some (k,ft))(hfi:tt ft=some fi)(hn:(fi.n==0)=false) :
  (execOp (s.act B).eval o).run P w = .ok (.value (.pointer (some ⟨b,off+k,none⟩))) w:=by
 obtain⟨dst,op,ty,pos,after,gd⟩:=o;simp only at ho;subst ho;obtain⟨fs,f,u1,u2,u3,u4⟩:=fld (hT _ _ hi) hk;have hz:fi.n≠0:=by simpa using hn
 simp only[execOp];refine aV ?_;rw[hx];have hs:=(hT _ _ hfi).sizeOf (w:=w);rw[<- u4]at hs;simp only[Instr.fieldAt,Instr.sureAddr,Sem.run_bind,run_underlying u1,Sem.run_pure,Result.andThen_ok,u2,fieldPlace,hs,if_neg hz,Addr.add_mid,u3]
theorem iN (hT:eE P tt){o:Oper}{t:TypeId}{x:Operand}{b off:Nat}{i:TI}{v:Value}(ho:o.op = .load t x)(hx:(s.act B).eval x = .pointer (some ⟨b,off,none⟩))(hi:tt t=some i)(ha:i.a=false)(hc:w.cell? ⟨b,off,none⟩=some v) :
  (execOp (s.act B).eval o).run P w = .ok (.value v) w:=by
 obtain⟨dst,op,ty,pos,after,gd⟩:=o;simp only at ho;subst ho;simp only[execOp];refine aV ?_;rw[hx];have hi:=hT _ _ hi;have:(loadVar t ⟨b,off,none⟩).run P w = .ok v w:=by
  unfold loadVar;rw[Sem.run_bind,hi.agg,Result.andThen_ok,if_neg (by rw[ha];decide),run_load,hc]
 simpa [Instr.loadAt,Instr.sureAddr] using this
theorem lV (hT:eE P tt){o:Oper}{t de:TypeId}{dl:Nat}{x ix:Operand}{ei:TI}{l:List AV}{r:AV}{kk:IntKind}{i:Nat}(ho:o.op = .index t x ix)(hu:P.underlying t=some (.array dl de))(hde:tt de=some ei)(hx:s.ev x = .g l)(hi:(s.act B).eval ix = .int kk (i:Int))(hlt:i<dl)
  (hr:(if ei.a then (match cutN l (i*ei.n) ei.n with|some q=>some (AV.g q)|none=>none) else getN l (i*ei.n))=some r):(execOp (s.act B).eval o).run P w = .ok (.value (r.den B)) w:=by
 obtain⟨dst,op,ty,pos,after,gd⟩:=o;simp only at ho;subst ho;simp only[execOp];refine aV ?_;have hs:=(hT _ _ hde).sizeOf (w:=w);have hp:=part_ok (B:=B) (w:=w) (hT _ _ hde) hr;have h2:(0:Int)<=(i:Int)/\(i:Int)<(dl:Int):=by omega
 rw[hi,St.aC,hx];simp[AV.den,Instr.index,asIntOf,run_underlying hu,h2,hs,hp,hlt]
theorem tZ {ps:List (Nat × Nat)}{f:Nat->Option (Nat × Nat)}(hf:∀j p,ps[j]? = some p->f j=some p):∀(l:List (Nat × Operand)) (c q:List AV),fillA ps s c l=some q->Instr.fill f (AV.denL B c).toArray (l.map fun p=>(p.1,(s.act B).eval p.2))=some (AV.denL B q).toArray
 | [],c,q,h=>by cases h;rfl
 | (j,x)::l,c,q,h=>by
  rw[fillA]at h;split at h
  ·rename_i o n hn;split at h
   ·rename_i m hm;split at h
    ·rename_i hc;simp only[Bool.and_eq_true,beq_iff_eq,Nat.ble_eq]at hc;have ih:=tZ hf l _ _ h;rw[List.map_cons,Instr.fill];rw[dH]at hn;have hg:f j=some (o,n):=hf _ _ hn;have hcs:=(AV.jK B hm).1;have hl:(AV.denL B m).length=m.length:=by rw[AV.aK,List.length_map]
     have hlc:(AV.denL B c).length=c.length:=by rw[AV.aK,List.length_map]
     simp only[hg,St.aC,hcs];rw[if_neg (by simp only[List.size_toArray,hl,hlc,hc.1,Bool.or_eq_true,decide_eq_true_eq,ne_eq,not_true_eq_false,false_or];omega)];rw[pA hc.2]at ih;have:=fB o (AV.denL B m) 0 (AV.denL B c) (by omega);simp only[St.aC]at ih;rw[<- Array.foldl_toList,Array.toList_zipIdx];simp only[Nat.add_zero]at this;rw[<- ih,<- this]
    ·cases h
   ·cases h
  ·cases h
def plA (n:Nat)(dl:Nat):List (Nat × Nat):=(List.range dl).map fun j=>(j*n,n)
theorem xB (hT:eE P tt){o:Oper}{t de:TypeId}{dl:Nat}{ps:Array (Nat × Operand)}{i ei:TI}{q:List AV}(ho:o.op = .build t ps)(hu:P.underlying t=some (.array dl de))(hi:tt t=some i)(hde:tt de=some ei)(hl:fillA (plA ei.n dl) s (constL i.z) ps.toList=some q) :
  (execOp (s.act B).eval o).run P w = .ok (.value ((AV.g q).den B)) w:=by
 obtain⟨dst,op,ty,pos,after,gd⟩:=o;simp only at ho;subst ho;have ty:=hT _ _ hi;obtain⟨qq,hq1,_⟩:=ty.info;obtain⟨z,hz1,hz2⟩:=ty.zero;rw[hq1]at hz1;have hz3:qq.zero=some z:=hz1;obtain⟨qe,he1,he2⟩:=(hT _ _ hde).info;have hf:=tZ (B:=B) (s:=s) (f:=fun i=>some (i*qe.size,qe.size)) (fun j p hp=>by
  unfold plA at hp;rw[List.getElem?_map]at hp;obtain⟨a,ha,rfl⟩:=Option.map_eq_some_iff.1 hp;have:a=j:=by
   have:=List.getElem?_eq_some_iff.1 ha;obtain⟨h1,h2⟩:=this;rw[List.getElem_range]at h2;exact h2.symm
  rw[this,he2]) ps.toList _ _ hl
 rw[iM]at hf;simp only[execOp];refine aV (run_build w t _ _ ?_);unfold Program.built;rw[hq1,hu];simp only[hz3,he1];rw[hz2];rw[<- hf]
 congr 1
 simp
end
end Go.Proofs.Own
namespace Go.Proofs.YtgeihgombjbkbaaGreat
open Go.RowKit Go.Maps Go.Proofs.Own

abbrev RS:=List Nat × Bool
def nS (m:Nat)(s:RS):RS:=(eC m s.1,s.2 || lI m s.1)
def iS (s:RS):RS:=(zD s.1,s.2 || aIf s.1)
def HZ:Nat:=1125899906842624
def ALL:Nat:=18446744073709551615
def prS (m1 m2:Nat):Nat->RS->List bP × RS
 | 0,s=>([],s)
 | n+1,s=>(⟨aB m1 s.1,aB m2 (nS m1 s).1⟩::(prS m1 m2 n (nS m2 (nS m1 s))).1,(prS m1 m2 n (nS m2 (nS m1 s))).2)
theorem sU (m1 m2:Nat):∀n s,(prS m1 m2 n s).1.length=n
 | 0,_=>rfl
 | n+1,s=>by rw[prS,List.length_cons,sU m1 m2 n]
def spS (s:RS):List bP × RS:=prS HZ HZ (aB 32 s.1) (nS 32 s)
def fY (s:RS):gR × RS:=(⟨gN s.1,(spS (iS s)).1,(spS (spS (iS s)).2).1⟩,(spS (spS (iS s)).2).2)
def bJ:gR:=⟨0,[],[]⟩
def dG (s:RS):gR × RS × Bool:=if (fY s).2.2=true\/cF (fY s).1≠0 then (bJ,([],true),false) else ((fY s).1,(fY s).2,true)
def lvS (s:RS):List bP × RS:=prS HZ 7 (aB 6 s.1) (nS 6 s)
def fN (s:RS):iJ × RS:=(⟨aB 7 s.1,(lvS (nS 7 s)).1,aB 8 (lvS (nS 7 s)).2.1,aB 1048576 (nS 8 (lvS (nS 7 s)).2).1⟩,nS 1048576 (nS 8 (lvS (nS 7 s)).2))
def bK:iJ:=⟨0,[],0,0⟩
def dB (s:RS):iJ × RS × Bool:=if (fN s).2.2=true\/eD (fN s).1=false then (bK,([],true),false) else ((fN s).1,(fN s).2,true)
def Rz (b rb:Nat)(t:RS)(u:World):Prop:=aE u b rb t.1 t.2
theorem Rz.bad {b rb:Nat}{t:RS}{u:World}(h:Rz b rb t u){x:Bool}(hx:t.2=x):u.cell? ⟨b,1,none⟩=some (.bool x):=hx ▸ aE.bad h
theorem dT {b rb:Nat}{t:RS}{w:World}(h:aE w b rb t.1 t.2)(U:Nat->Prop)(h1:¬U b)(h2:¬U rb):Sf U w (Rz b rb t):=fun _ ku=>h.kept ku h1 h2
theorem cT {n m:Nat}(h:n<=m)(hm:(m:Int)<9223372036854775808):IntKind.i64.wrap (n:Int)=n:=by
 simp only[IntKind.wrap,IntKind.bits,IntKind.signed];simp;omega
theorem wrU {n:Nat}(h:(n:Int)<18446744073709551616):IntKind.u64.wrap (n:Int)=n:=by
 rw[wrap_u64];omega
structure PI (m1 m2 n:Nat)(t0:RS) where
 j:Nat
 a:Option Addr
 c:Nat
 L:List bP
 t:RS
 x:Nat->Value
 hj:j<=n
 hL:L.length=j
 inv:(L++(prS m1 m2 (n-j) t).1,(prS m1 m2 (n-j) t).2)=prS m1 m2 n t0
def PI.zero (m1 m2 n:Nat)(t0:RS)(x:Nat->Value):PI m1 m2 n t0:=⟨0,none,0,[],t0,x,Nat.zero_le _,rfl,rfl⟩
def PI.next {m1 m2 n:Nat}{t0:RS}(i:PI m1 m2 n t0)(h:i.j<n)(a:Option Addr)(c:Nat)(x:Nat->Value):PI m1 m2 n t0:=⟨i.j+1,a,c,i.L ++ [⟨aB m1 i.t.1,aB m2 (nS m1 i.t).1⟩],nS m2 (nS m1 i.t),x,h,by rw[List.length_append,i.hL];rfl,by
 have:=i.inv;rw[show n-i.j=(n-(i.j+1))+1 by omega,prS]at this;rw[<- this];simp⟩
theorem PI.last {m1 m2 n:Nat}{t0:RS}(i:PI m1 m2 n t0)(h:i.j=n):i.L=(prS m1 m2 n t0).1/\i.t=(prS m1 m2 n t0).2:=by
 have:=i.inv;rw[show n-i.j=0 by omega,prS,List.append_nil]at this;rw[<- this];exact⟨rfl,rfl⟩
section
variable {b rb:Nat} {w0:World} {R:World->Prop} {e:TypeId} {sz:Nat} {v:Value} {rs:List (List Value)} {Q:Exit->Act->World->Prop} {k8:KB} {s:St} {k:List KF} {c:Cf} {dst:Option Tmp} {t:RS}
theorem dF (m:Nat)(M:Int)(hM:M=(m:Int))(hm:(m:Int)<18446744073709551616)(h:Ok Tryz.prog Q (FrD b rb w0 R (Rz b rb (nS m t)) e sz v rs) c (s.put dst (.i .u64 (.x fun _=>(aB m t.1:Nat)))) k) :
  bO Tryz.prog Q (FrD b rb w0 R (Rz b rb t) e sz v rs) k8 (.call 23 [.pa (fun _=>⟨b,0,none⟩),.i .u64 (.l M)] dst c s k):=fun B w F=>by
 subst hM;refine(pC b m t.1 t.2 w F.z (by omega) hm).mono ?_;rintro e w' ⟨rfl,h1,h2⟩;rw[Int.toNat_natCast]at *
 exact⟨_,_,rfl,fd.b,F.rd h2 (dT (t:=nS m t) h1),h⟩
theorem bY (m:Nat)(M:Int)(hM:M=(m:Int))(hm:(m:Int)<18446744073709551616)(h:Ok Tryz.prog Q (FrD b rb w0 R (Rz b rb (nS m t)) e sz v rs) c (s.put dst (.i .u64 (.x fun _=>(aB m t.1:Nat)))) k) :
  bO Tryz.prog Q (FrD b rb w0 R (Rz b rb t) e sz v rs) k8 (.call 29 [.pa (fun _=>⟨b,0,none⟩),.i .u64 (.l M)] dst c s k):=fun B w F=>by
 subst hM;refine(vF b m t.1 t.2 w F.z (by omega) hm).mono ?_;rintro e w' ⟨rfl,h1,h2⟩;rw[Int.toNat_natCast]at *
 exact⟨_,_,rfl,fd.b,F.rd h2 (dT (t:=nS m t) h1),h⟩
theorem xU (h:Ok Tryz.prog Q (FrD b rb w0 R (Rz b rb (iS t)) e sz v rs) c (s.put dst (.i .i64 (.x fun _=>gN t.1))) k) :
  bO Tryz.prog Q (FrD b rb w0 R (Rz b rb t) e sz v rs) k8 (.call 24 [.pa (fun _=>⟨b,0,none⟩)] dst c s k):=fun B w F=>by
 refine(aIG b t.1 t.2 w F.z).mono ?_;rintro e w' ⟨rfl,h1,h2⟩;exact⟨_,_,rfl,fd.b,F.rd h2 (dT (t:=iS t) h1),h⟩
theorem xV (h:Ok Tryz.prog Q (FrD b rb w0 R (Rz b rb (iS t)) e sz v rs) c (s.put dst (.i .i64 (.x fun _=>gN t.1))) k) :
  bO Tryz.prog Q (FrD b rb w0 R (Rz b rb t) e sz v rs) k8 (.call 30 [.pa (fun _=>⟨b,0,none⟩)] dst c s k):=fun B w F=>by
 refine(aIU b t.1 t.2 w F.z).mono ?_;rintro e w' ⟨rfl,h1,h2⟩;exact⟨_,_,rfl,fd.b,F.rd h2 (dT (t:=iS t) h1),h⟩
theorem pB (h:Ok Tryz.prog Q (FrD b rb w0 R (Rz b rb ([],true)) e sz v rs) c (s.put dst (.t [])) k) :
  bO Tryz.prog Q (FrD b rb w0 R (Rz b rb t) e sz v rs) k8 (.call 75 [.pa (fun _=>⟨b,0,none⟩)] dst c s k):=fun B w F=>by
 refine(cU b t.1 t.2 w F.z).mono ?_;rintro e w' ⟨rfl,h1,h2⟩;exact⟨_,_,rfl,fd.b,F.rd h2 (dT (t:=([],true)) h1),h⟩
theorem pD (h:Ok Tryz.prog Q (FrD b rb w0 R (Rz b rb ([],true)) e sz v rs) c (s.put dst (.t [])) k) :
  bO Tryz.prog Q (FrD b rb w0 R (Rz b rb t) e sz v rs) k8 (.call 78 [.pa (fun _=>⟨b,0,none⟩)] dst c s k):=fun B w F=>by
 refine(eP b t.1 t.2 w F.z).mono ?_;rintro e w' ⟨rfl,h1,h2⟩;exact⟨_,_,rfl,fd.b,F.rd h2 (dT (t:=([],true)) h1),h⟩
theorem aID (h:Ok Tryz.prog Q (FrD b rb w0 R (Rz b rb t) e sz v rs) c (s.put dst (.b (.x fun _=>t.2))) k) :
  bO Tryz.prog Q (FrD b rb w0 R (Rz b rb t) e sz v rs) k8 (.call 25 [.pa (fun _=>⟨b,0,none⟩)] dst c s k):=fun B w F=>by
 refine(aIE b t.1 t.2 w F.z).mono ?_;rintro e w' ⟨rfl,rfl⟩;exact⟨_,_,rfl,fd.b,F,h⟩
end
theorem mS:cE Tryz.prog 66 324 2 16:=by
 obtain⟨i0,hi,hz0,hz1,hz2⟩:=info_parts (show (Tryz.prog.info? 324).map (fun i=>(i.zero,i.size,i.bytes))=some (some (.agg #[.int .i64 0,.int .i64 0]),2,16) by kernel_rfl);exact⟨Tryz.underlying66,⟨i0,_,hi,hz0,hz1,hz2,rfl⟩,by decide,by decide⟩
theorem oV:cE Tryz.prog 69 275 2 16:=by
 obtain⟨i0,hi,hz0,hz1,hz2⟩:=info_parts (show (Tryz.prog.info? 275).map (fun i=>(i.zero,i.size,i.bytes))=some (some (.agg #[.int .i64 0,.int .i64 0]),2,16) by kernel_rfl);exact⟨Tryz.underlying69,⟨i0,_,hi,hz0,hz1,hz2,rfl⟩,by decide,by decide⟩
end Go.Proofs.YtgeihgombjbkbaaGreat
namespace Go.Proofs.YtgeihgombjbkbaaGreat
open Go.RowKit Go.Maps Go.Proofs.Own

def aA:Nat->Option Pl:=fun _=>none
def aMg {m1 m2 n:Nat}{t0:RS}(b N:Nat)(i:PI m1 m2 n t0):List (Nat × AV):=[(0,.pa (fun _=>⟨b,0,none⟩)),(3,.sl (fun _=>i.a) (fun _=>i.j) (fun _=>i.c)),(4,.i .u64 (.x fun _=>(N:Nat))),(5,.i .u64 (.x fun _=>(i.j:Int)))]
theorem pN {b rb:Nat}{w:World}{t:RS}(h:aE w b rb t.1 t.2)(hr:rb<w.heap.size) :
  Calls Tryz.prog 183 #[.pointer (some ⟨b,0,none⟩)] w fun e w'=>∃a c,e = .returned (.slice a (spS t).1.length c)/\Sf (fun k=>k<w.heap.size) w' (fun u=>aU u 2 (.slice a (spS t).1.length c) ((spS t).1.map spV))/\aE w' b rb (spS t).2.1 (spS t).2.2/\Kept w w' (fun k=>k=b):=by
 have F0:FrD b rb w (fun _=>True) (Rz b rb t) 324 2 (.slice none 0 0) [] w []:=FrD.start w h.lt hr _ _ (Sf.all _ _) fun u bu=>h.below bu;refine enter (F:=FrD b rb w (fun _=>True) (Rz b rb t) 324 2 (.slice none 0 0) []) (fun _=>0) [.pa (fun _=>⟨b,0,none⟩)] [] Tryz.func183 rfl rfl F0 27 rfl ?_;refine ga env fd aA ?_;refine bY 32 _ rfl (by decide) ?_;refine ga env fd aA ?_;have hN:aB 32 t.1<=32:=aD _ _;unfold spS;clear F0 h;generalize aB 32 t.1=N at hN ⊢;generalize nS 32 t=t1;refine eA (fun i:PI HZ HZ N t1=>FrD b rb w (fun _=>True) (Rz b rb i.t) 324 2 (.slice i.a i.j i.c) (i.L.map spV)) (fun i=>⟨mkT i.x (aMg b N i) 0 28,[]⟩) (fun i=>N-i.j) 28 (fun B w1 F=>?_) ?_
 ·exact⟨PI.zero _ _ _ _ _,aMg b N (PI.zero HZ HZ N t1 fun _=>undef),rfl,⟨rfl,rfl,rfl,rfl,trivial⟩,F⟩
 intro i J hJ;refine ga env fd aA ?_;refine⟨fun q=>?_,fun q=>?_⟩
 ·have hlt:i.j<N:=by simpa [BE.den,cmpB,IE.den] using q
  clear q;refine ga env fd aA ?_;refine bY HZ _ rfl (by decide) ?_;refine ga env fd aA ?_;refine bY HZ _ rfl (by decide) ?_;refine ga env fd aA ?_;have hlen:(i.L.map spV).length=i.j:=by rw[List.length_map,i.hL]
  refine oA mS hlen (Nat.le_trans (Nat.le_of_lt hlt) (Nat.le_trans hN (by decide))) ?_;intro a' g c';refine ga env fd aA ?_;refine fC 28 hJ (fun B v F=>?_);refine⟨i.next hlt a' c' _,aMg b N (i.next hlt a' c' fun _=>undef),by show N-(i.j+1)<N-i.j;omega,rfl,⟨rfl,rfl,rfl,?_,trivial⟩,?_⟩
  ·simp only[AV.den,IE.den,getT];rw[show ((i.j:Nat):Int)+1=((i.j+1:Nat):Int) from rfl,wrU (by omega)];rfl
  ·have e:(i.next hlt a' c' (fun _=>undef)).L.map spV=i.L.map spV ++ [AV.denL (fun _=>0) [.i .i64 (.cv .i64 (.x fun _=>(aB HZ i.t.1:Nat))),.i .i64 (.cv .i64 (.x fun _=>(aB HZ (nS HZ i.t).1:Nat)))]]:=by
    simp only[PI.next,List.map_append,List.map_cons,List.map_nil,spV,AV.denL,AV.den,IE.den];rw[cT (aD HZ _) (by decide),cT (aD HZ _) (by decide)]
   show FrD b rb w (fun _=>True) (Rz b rb (nS HZ (nS HZ i.t))) 324 2 (.slice a' (i.j+1) c') ((i.next hlt a' c' (fun _=>undef)).L.map spV) v _;rw[e];exact F
 ·have hje:i.j=N:=by
   have:¬i.j<N:=by simpa [BE.den,cmpB,IE.den] using q
   have:=i.hj;omega
  clear q;refine ga env fd aA ?_;refine fa env fd ?_;intro B v F;obtain⟨h1,h2⟩:=i.last hje;rw[<- h1,<- h2];have hl:=i.hL;exact⟨i.a,i.c,by rw[hl];rfl,by rw[hl];exact(aIu F.own).imp fun _ h=>aU.cX h,F.z,F.kept⟩
theorem hD (t:RS):(spS t).1.length<=32:=by
 unfold spS;rw[sU];exact aD _ _
def mV (b rb:Nat)(t:RS)(w:World):Ending->World->Prop:=fun e w'=>∃wa wc ca cc,e = .returned (.tuple #[.agg #[.int .i64 (dG t).1.o,.slice wa (dG t).1.w.length wc,.slice ca (dG t).1.c.length cc],.bool (dG t).2.2])/\Sf (fun k=>k<w.heap.size) w' (fun u=>cD u (dG t).1 wa (dG t).1.w.length wc ca (dG t).1.c.length cc)/\aE w' b rb (dG t).2.1.1 (dG t).2.1.2/\Kept w w' (fun k=>k=b)
theorem cD.zero (w:World):cD w bJ none 0 0 none 0 0:=⟨aU.nil _ _,aU.nil _ _,rfl,rfl,by decide,by decide⟩
theorem sV {b rb:Nat}{w:World}{t:RS}(h:aE w b rb t.1 t.2)(hr:rb<w.heap.size):Calls Tryz.prog 124 #[.pointer (some ⟨b,0,none⟩)] w (mV b rb t w):=by
 have F0:FrD b rb w (fun _=>True) (Rz b rb t) 324 2 (.slice none 0 0) [] w []:=FrD.start w h.lt hr _ _ (Sf.all _ _) fun u bu=>h.below bu;refine enter (F:=FrD b rb w (fun _=>True) (Rz b rb t) 324 2 (.slice none 0 0) []) (fun _=>0) [.pa (fun _=>⟨b,0,none⟩)] [] Tryz.func124 rfl rfl F0 26 rfl ?_;clear F0 h;refine ga env fd aA ?_;refine xV ?_;refine ga env fd aA ?_;intro B w1 F;refine(pN (t:=iS t) F.z F.lt.2).mono ?_;rintro e w2 ⟨a,c,rfl,hs,hz,hk⟩;refine⟨.sl (fun _=>a) (fun _=>(spS (iS t)).1.length) (fun _=>c),_,rfl,fd.b,F.rdR hk (dT (t:=(spS (iS t)).2) hz) hs,?_⟩;clear F hs hz hk;refine ga env fd aA ?_;intro B w3 F;refine(pN (t:=(spS (iS t)).2) F.z F.lt.2).mono ?_;rintro e w4 ⟨a2,c2,rfl,hs,hz,hk⟩;refine⟨.sl (fun _=>a2) (fun _=>(spS (spS (iS t)).2).1.length) (fun _=>c2),_,rfl,fd.b,F.rdR hk (dT (t:=(spS (spS (iS t)).2).2) hz) hs,?_⟩;clear F hs hz hk w1 w2 w3 w4;refine ga env fd aA ?_;refine bH (.pa fun _=>⟨b,1,none⟩) (fun B v F=>rZ (b:=b) (off:=0) (k:=1) bF rfl (by rw[St.aC];rfl) rfl rfl rfl rfl) ?_;refine ga env fd aA ?_;cases hbd:(spS (spS (iS t)).2).2.2 with
 | true =>
  have hR:dG t=(bJ,([],true),false):=if_pos (.inl hbd);refine bH (.b (.l true)) (fun B v F=>iN (b:=b) (off:=1) bF rfl (by rw[St.aC];rfl) rfl rfl (F.z.bad hbd)) ?_;refine ga env fd aA ?_;refine pD ?_;refine ga env fd aA ?_;refine fa env fd ?_;intro B v F;unfold mV;rw[hR];exact⟨none,0,none,0,rfl,fun u _=>cD.zero u,F.z,F.kept⟩
 | false =>
  refine bH (.b (.l false)) (fun B v F=>iN (b:=b) (off:=1) bF rfl (by rw[St.aC];rfl) rfl rfl (F.z.bad hbd)) ?_;refine ga env fd aA ?_;intro B v F;refine(kW (fY t).1 a _ c a2 _ c2 v ⟨F.now.2.1,F.now.1,rfl,rfl,Nat.le_trans (hD _) (by decide),Nat.le_trans (hD _) (by decide)⟩).mono ?_;rintro e w5 ⟨rfl,hb⟩;refine⟨.i .i64 (.x fun _=>cF (fY t).1),_,rfl,fd.b,F.call hb,?_⟩;clear F hb;refine ga env fd aA ?_;refine⟨fun q=>?_,fun q=>?_⟩
  ·have hne:cF (fY t).1≠0:=by simpa [BE.den,cmpB,IE.den] using q
   have hR:dG t=(bJ,([],true),false):=if_pos (.inr hne);clear q;refine ga env fd aA ?_;refine pD ?_;refine ga env fd aA ?_;refine fa env fd ?_;intro B v F;unfold mV;rw[hR];exact⟨none,0,none,0,rfl,fun u _=>cD.zero u,F.z,F.kept⟩
  ·have heq:cF (fY t).1=0:=by simpa [BE.den,cmpB,IE.den] using q
   have hR:dG t=((fY t).1,(fY t).2,true):=if_neg (fun h=>h.elim (fun h=>by have h:(spS (spS (iS t)).2).2.2=true:=h;rw[hbd]at h;cases h) fun h=>h heq);clear q;refine ga env fd aA ?_;refine fa env fd ?_;intro B v F;unfold mV;rw[hR];exact⟨a,c,a2,c2,rfl,F.old.imp fun u h=>⟨h.2.1,h.1,rfl,rfl,Nat.le_trans (hD _) (by decide),Nat.le_trans (hD _) (by decide)⟩,F.z,F.kept⟩

def yV {m1 m2 n:Nat}{t0:RS}(b kk N:Nat)(i:PI m1 m2 n t0):List (Nat × AV):=[(0,.pa (fun _=>⟨b,0,none⟩)),(2,.p 0 0),(3,.b (.l false)),(4,.p 1 0),(6,.p 1 (kk+1)),(14,.g [.p 1 1,.p 1 2]),(15,.i .i64 (.l kk)),(19,.i .u64 (.x fun _=>(N:Nat))),(20,.i .u64 (.x fun _=>(i.j:Int)))]
theorem sP {b rb:Nat}{w:World}{t:RS}(h:aE w b rb t.1 t.2)(hr:rb<w.heap.size):Calls Tryz.prog 121 #[.pointer (some ⟨b,0,none⟩)] w (mV b rb t w):=by
 have F0:FrD b rb w (fun _=>True) (Rz b rb t) 324 2 (.slice none 0 0) [] w []:=FrD.start w h.lt hr _ _ (Sf.all _ _) fun u bu=>h.below bu;refine enter (F:=FrD b rb w (fun _=>True) (Rz b rb t) 324 2 (.slice none 0 0) []) (fun _=>0) [.pa (fun _=>⟨b,0,none⟩)] [] Tryz.func121 rfl rfl F0 54 rfl ?_;clear F0 h;refine ga env fd aA ?_;refine xU ?_;refine ga env fd aA ?_;refine bH (.g [.p 1 1,.p 1 2]) (fun B v F=>xB bF rfl Tryz.underlying322 rfl rfl rfl) ?_;refine ga env fd aA ?_;refine aJk 3 fun J0 hJ0=>?_;refine ga env fd aA ?_;refine bH (.p 1 1) (fun B v F=>lV bF (i:=0) rfl Tryz.underlying322 rfl rfl (by rw[St.aC];rfl) (by decide) rfl) ?_;refine ga env fd aA ?_;refine dF 32 _ rfl (by decide) ?_;refine ga env fd aA ?_;have hN0:aB 32 (iS t).1<=32:=aD _ _;have hs0:spS (iS t)=prS HZ HZ (aB 32 (iS t).1) (nS 32 (iS t)):=rfl;generalize hn0:aB 32 (iS t).1=N0 at hN0 hs0 ⊢;generalize nS 32 (iS t)=s0 at hs0 ⊢;clear hn0;refine eA (fun i:PI HZ HZ N0 s0=>FrD b rb w (fun _=>True) (Rz b rb i.t) 324 2 (.slice i.a i.j i.c) (i.L.map spV)) (fun i=>⟨mkT i.x (yV b 0 N0 i) 0 55,[[.i .i64 (.l 0),.v (.slice none 0 0),.v (.slice none 0 0)],[.i .i64 (.x fun _=>gN t.1),.sl (fun _=>i.a) (fun _=>i.j) (fun _=>i.c),.v (.slice none 0 0)]]⟩) (fun i=>N0-i.j) 55 (fun B w1 F=>?_) ?_
 ·exact⟨PI.zero _ _ _ _ _,yV b 0 N0 (PI.zero HZ HZ N0 s0 fun _=>undef),rfl,⟨rfl,rfl,rfl,rfl,rfl,rfl,rfl,rfl,rfl,trivial⟩,F⟩
 intro i J hJ;refine ga env fd aA ?_;refine⟨fun q=>?_,fun q=>?_⟩
 ·have hlt:i.j<N0:=by simpa [BE.den,cmpB,IE.den] using q
  clear q;refine ga env fd aA ?_;refine dF HZ _ rfl (by decide) ?_;refine ga env fd aA ?_;refine dF HZ _ rfl (by decide) ?_;refine ga env fd aA ?_;have hlen:(i.L.map spV).length=i.j:=by rw[List.length_map,i.hL]
  refine oA mS hlen (Nat.le_trans (Nat.le_of_lt hlt) (Nat.le_trans hN0 (by decide))) ?_;intro a' g c';refine ga env fd aA ?_;refine fC 55 hJ (fun B v F=>?_);refine⟨i.next hlt a' c' _,yV b 0 N0 (i.next hlt a' c' fun _=>undef),by show N0-(i.j+1)<N0-i.j;omega,rfl,⟨rfl,rfl,rfl,rfl,rfl,rfl,rfl,rfl,?_,trivial⟩,?_⟩
  ·simp only[AV.den,IE.den,getT];rw[show ((i.j:Nat):Int)+1=((i.j+1:Nat):Int) from rfl,wrU (by omega)];rfl
  ·have e:(i.next hlt a' c' (fun _=>undef)).L.map spV=i.L.map spV ++ [AV.denL (fun _=>0) [.i .i64 (.cv .i64 (.x fun _=>(aB HZ i.t.1:Nat))),.i .i64 (.cv .i64 (.x fun _=>(aB HZ (nS HZ i.t).1:Nat)))]]:=by
    simp only[PI.next,List.map_append,List.map_cons,List.map_nil,spV,AV.denL,AV.den,IE.den];rw[cT (aD HZ _) (by decide),cT (aD HZ _) (by decide)]
   show FrD b rb w (fun _=>True) (Rz b rb (nS HZ (nS HZ i.t))) 324 2 (.slice a' (i.j+1) c') ((i.next hlt a' c' (fun _=>undef)).L.map spV) v _;rw[e];exact F
 have hje:i.j=N0:=by
  have:¬i.j<N0:=by simpa [BE.den,cmpB,IE.den] using q
  have:=i.hj;omega
 clear q hJ;obtain⟨hl0,ht0⟩:=i.last hje;rw[<- hs0]at hl0 ht0;have hjl:=i.hL;rw[ht0,hl0,<- hjl,hl0];generalize i.a=a0;generalize i.c=c0

 clear hl0 ht0 hjl hje hs0 hN0;refine ga env fd aA ?_;refine eI hJ0 fun J1 hJ1=>?_;refine aL5 (fun v L F=>F.kX 324 2) ?_;refine ga env fd aA ?_;refine bH (.p 1 2) (fun B v F=>lV bF (i:=1) rfl Tryz.underlying322 rfl rfl (by rw[St.aC];rfl) (by decide) rfl) ?_;refine ga env fd aA ?_;refine dF 32 _ rfl (by decide) ?_;refine ga env fd aA ?_;have hN1:aB 32 (spS (iS t)).2.1<=32:=aD _ _;have hs1:spS (spS (iS t)).2=prS HZ HZ (aB 32 (spS (iS t)).2.1) (nS 32 (spS (iS t)).2):=rfl;generalize hn1:aB 32 (spS (iS t)).2.1=N1 at hN1 hs1 ⊢;generalize nS 32 (spS (iS t)).2=s1 at hs1 ⊢;clear hn1;refine eA (fun i:PI HZ HZ N1 s1=>FrD b rb w (fun u=>dC u w.heap.size 324 2 (.slice a0 (spS (iS t)).1.length c0) ((spS (iS t)).1.map spV)/\True) (Rz b rb i.t) 324 2 (.slice i.a i.j i.c) (i.L.map spV)) (fun i=>⟨mkT i.x (yV b 1 N1 i) 0 55,[[.i .i64 (.l 0),.v (.slice none 0 0),.v (.slice none 0 0)],[.i .i64 (.x fun _=>gN t.1),.sl (fun _=>a0) (fun _=>(spS (iS t)).1.length) (fun _=>c0),.sl (fun _=>i.a) (fun _=>i.j) (fun _=>i.c)]]⟩) (fun i=>N1-i.j) 55 (fun B w1 F=>?_) ?_
 ·exact⟨PI.zero _ _ _ _ _,yV b 1 N1 (PI.zero HZ HZ N1 s1 fun _=>undef),rfl,⟨rfl,rfl,rfl,rfl,rfl,rfl,rfl,rfl,rfl,trivial⟩,F⟩
 intro i J hJ;refine ga env fd aA ?_;refine⟨fun q=>?_,fun q=>?_⟩
 ·have hlt:i.j<N1:=by simpa [BE.den,cmpB,IE.den] using q
  clear q;refine ga env fd aA ?_;refine dF HZ _ rfl (by decide) ?_;refine ga env fd aA ?_;refine dF HZ _ rfl (by decide) ?_;refine ga env fd aA ?_;have hlen:(i.L.map spV).length=i.j:=by rw[List.length_map,i.hL]
  refine oA mS hlen (Nat.le_trans (Nat.le_of_lt hlt) (Nat.le_trans hN1 (by decide))) ?_;intro a' g c';refine ga env fd aA ?_;refine fC 55 hJ (fun B v F=>?_);refine⟨i.next hlt a' c' _,yV b 1 N1 (i.next hlt a' c' fun _=>undef),by show N1-(i.j+1)<N1-i.j;omega,rfl,⟨rfl,rfl,rfl,rfl,rfl,rfl,rfl,rfl,?_,trivial⟩,?_⟩
  ·simp only[AV.den,IE.den,getT];rw[show ((i.j:Nat):Int)+1=((i.j+1:Nat):Int) from rfl,wrU (by omega)];rfl
  ·have e:(i.next hlt a' c' (fun _=>undef)).L.map spV=i.L.map spV ++ [AV.denL (fun _=>0) [.i .i64 (.cv .i64 (.x fun _=>(aB HZ i.t.1:Nat))),.i .i64 (.cv .i64 (.x fun _=>(aB HZ (nS HZ i.t).1:Nat)))]]:=by
    simp only[PI.next,List.map_append,List.map_cons,List.map_nil,spV,AV.denL,AV.den,IE.den];rw[cT (aD HZ _) (by decide),cT (aD HZ _) (by decide)]
   show FrD b rb w (fun u=>dC u w.heap.size 324 2 (.slice a0 (spS (iS t)).1.length c0) ((spS (iS t)).1.map spV)/\True) (Rz b rb (nS HZ (nS HZ i.t))) 324 2 (.slice a' (i.j+1) c') ((i.next hlt a' c' (fun _=>undef)).L.map spV) v _;rw[e];exact F
 have hje:i.j=N1:=by
  have:¬i.j<N1:=by simpa [BE.den,cmpB,IE.den] using q
  have:=i.hj;omega
 clear q hJ;obtain⟨hl1,ht1⟩:=i.last hje;rw[<- hs1]at hl1 ht1;have hjl:=i.hL;rw[ht1,hl1,<- hjl,hl1];generalize i.a=a1;generalize i.c=c1

 clear hl1 ht1 hjl hje hs1 hN1;refine ga env fd aA ?_;refine eI hJ1 fun J2 hJ2=>?_;clear hJ0 hJ1 hJ2;refine ga env fd aA ?_;refine aID ?_;refine ga env fd aA ?_;cases hbd:(spS (spS (iS t)).2).2.2 with
 | true =>
  have hR:dG t=(bJ,([],true),false):=if_pos (.inl hbd);refine aH 46 true rfl ?_;refine ga env fd aA ?_;refine pB ?_;refine ga env fd aA ?_;refine fa env fd ?_;intro B v F;unfold mV;rw[hR];exact⟨none,0,none,0,rfl,fun u _=>cD.zero u,F.z,F.kept⟩
 | false =>
  refine aH 46 false rfl ?_;refine ga env fd aA ?_;intro B v F;refine(kU (fY t).1 a0 _ c0 a1 _ c1 v ⟨aU.cX F.now.1,aU.cX F.own,rfl,rfl,Nat.le_trans (hD _) (by decide),Nat.le_trans (hD _) (by decide)⟩).mono ?_;rintro e w5 ⟨rfl,hb⟩;refine⟨.i .i64 (.x fun _=>cF (fY t).1),_,rfl,fd.b,F.call hb,?_⟩;clear F hb;refine ga env fd aA ?_;refine⟨fun q=>?_,fun q=>?_⟩
  ·have hne:cF (fY t).1≠0:=by simpa [BE.den,cmpB,IE.den] using q
   have hR:dG t=(bJ,([],true),false):=if_pos (.inr hne);clear q;refine ga env fd aA ?_;refine pB ?_;refine ga env fd aA ?_;refine fa env fd ?_;intro B v F;unfold mV;rw[hR];exact⟨none,0,none,0,rfl,fun u _=>cD.zero u,F.z,F.kept⟩
  ·have heq:cF (fY t).1=0:=by simpa [BE.den,cmpB,IE.den] using q
   have hR:dG t=((fY t).1,(fY t).2,true):=if_neg (fun h=>h.elim (fun h=>by have h:(spS (spS (iS t)).2).2.2=true:=h;rw[hbd]at h;cases h) fun h=>h heq);clear q;refine ga env fd aA ?_;refine fa env fd ?_;intro B v F;unfold mV;rw[hR];have F:=F.kX 324 2;exact⟨a0,c0,a1,c1,rfl,F.old.imp fun u h=>⟨aU.cX h.2.1,aU.cX h.1,rfl,rfl,Nat.le_trans (hD _) (by decide),Nat.le_trans (hD _) (by decide)⟩,F.z,F.kept⟩

def plRt14:Nat->Option Pl
 | 7=>some ⟨[0,1,0,0,8,24,60,124,255,511,1023],112,[.h [0,1,2,3],.o 4,.h [5,6],.o 7,.o 8,.h [9],.o 10],[]⟩
 | _=>none
def plRt:Nat->Option Pl
 | 6=>some ⟨[0,1,0,0,8,28,60,127,255,511],48,[.h [0,1,2,3],.o 4,.h [5],.o 6,.o 7,.h [8],.o 9],[]⟩
 | _=>none

def mW (b rb:Nat)(t:RS)(w:World):Ending->World->Prop:=fun e w'=>∃la lc,e = .returned (.tuple #[.agg #[.int .i64 (dB t).1.c,.slice la (dB t).1.l.length lc,.int .i64 (dB t).1.r,.int .i64 (dB t).1.b],.bool (dB t).2.2])/\Sf (fun k=>k<w.heap.size) w' (fun u=>bZ u (dB t).1 la (dB t).1.l.length lc)/\aE w' b rb (dB t).2.1.1 (dB t).2.1.2/\Kept w w' (fun k=>k=b)
theorem bZ.zero (w:World):bZ w bK none 0 0:=⟨aU.nil _ _,rfl,by decide⟩
theorem nQ (t:RS):(lvS t).1.length<=6:=by
 unfold lvS;rw[sU];exact aD _ _
theorem wN {b rb bx:Nat}{w:World}{t:RS}(h:aE w b rb t.1 t.2)(hr:rb<w.heap.size)(hx:w.cell? ⟨bx,0,none⟩=some (.pointer (some ⟨b,0,none⟩)))(hne:bx≠b)(m:Nat)(M:Int)(hM:M=(m:Int))(hm:(m:Int)<9223372036854775808) :
  Calls Tryz.prog 182 #[.int .u64 M,.pointer (some ⟨bx,0,none⟩)] w fun e w'=>e = .returned (.int .i64 (aB m t.1:Nat))/\aE w' b rb (nS m t).1 (nS m t).2/\Kept w w' (fun k=>k=b):=by
 have F0:FrD b rb w (fun _=>True) (Rz b rb t) 324 2 (.slice none 0 0) [] w []:=FrD.start w h.lt hr _ _ (Sf.all _ _) fun u bu=>h.below bu;refine enter (F:=FrD b rb w (fun _=>True) (Rz b rb t) 324 2 (.slice none 0 0) []) (fun _=>0) [.i .u64 (.l M),.pa (fun _=>⟨bx,0,none⟩)] [] Tryz.func182 rfl rfl F0 6 rfl ?_;clear F0 h;refine ga env fd aA ?_;refine bH (.pa fun _=>⟨b,0,none⟩) (fun B v F=>iN (b:=bx) (off:=0) bF rfl (by rw[St.aC];rfl) rfl rfl (F.kept.cell hx hne)) ?_;refine ga env fd aA ?_;refine dF m M hM (by omega) ?_;refine ga env fd aA ?_;refine fa env fd ?_;intro B v F;refine⟨?_,F.z,F.kept⟩;simp only[resV,AV.den,IE.den];rw[cT (aD m _) hm]
section
variable {b rb:Nat} {w0:World} {R:World->Prop} {e:TypeId} {sz:Nat} {v:Value} {rs:List (List Value)} {Q:Exit->Act->World->Prop} {k8:KB} {s:St} {k:List KF} {c:Cf} {dst:Option Tmp} {t:RS}
theorem mP (m:Nat)(M:Int)(hM:M=(m:Int))(hm:(m:Int)<9223372036854775808)(h:Ok Tryz.prog Q (FrD b rb w0 R (Rz b rb (nS m t)) e sz v rs) c (s.put dst (.i .i64 (.x fun _=>(aB m t.1:Nat)))) k)(hs:s.bx[0]? = some [.pa (fun _=>⟨b,0,none⟩)]:=by rfl) :
  bO Tryz.prog Q (FrD b rb w0 R (Rz b rb t) e sz v rs) k8 (.call 182 [.i .u64 (.l M),.p 0 0] dst c s k):=fun B w F=>by
 have hm0:(mkB B 0 s.bx)[0]? = some (B 0,[.pointer (some ⟨b,0,none⟩)]):=by rw[kH,hs];rfl
 have hbx:=F.box 0 _ hm0;refine(wN F.z F.lt.2 (hbx.2 0 _ rfl).1 (F.rng _ (List.mem_map.2 ⟨_,List.mem_of_getElem? hm0,rfl⟩)).2.1 m M hM hm).mono ?_;rintro e w' ⟨rfl,h1,h2⟩;exact⟨_,_,rfl,fd.b,F.rd h2 (dT (t:=nS m t) h1),h⟩
end
def aMb {m1 m2 n:Nat}{t0:RS}(b N:Nat)(i:PI m1 m2 n t0):List (Nat × AV):=[(0,.pa (fun _=>⟨b,0,none⟩)),(2,.p 0 0),(3,.b (.l false)),(4,.p 1 0),(5,.i .u64 (.x fun _=>(N:Nat))),(6,.i .u64 (.x fun _=>(i.j:Int)))]
theorem sY {b rb:Nat}{w:World}{t:RS}(h:aE w b rb t.1 t.2)(hr:rb<w.heap.size):Calls Tryz.prog 125 #[.pointer (some ⟨b,0,none⟩)] w (mW b rb t w):=by
 have F0:FrD b rb w (fun _=>True) (Rz b rb t) 275 2 (.slice none 0 0) [] w []:=FrD.start w h.lt hr _ _ (Sf.all _ _) fun u bu=>h.below bu;refine enter (F:=FrD b rb w (fun _=>True) (Rz b rb t) 275 2 (.slice none 0 0) []) (fun _=>0) [.pa (fun _=>⟨b,0,none⟩)] [] Tryz.func125 rfl rfl F0 52 rfl ?_;clear F0 h;refine ga env fd plRt14 ?_;refine bY 7 _ rfl (by decide) ?_;refine ga env fd plRt14 ?_;refine bY 6 _ rfl (by decide) ?_;refine ga env fd plRt14 ?_;have hN:aB 6 (nS 7 t).1<=6:=aD _ _;have hs:lvS (nS 7 t)=prS HZ 7 (aB 6 (nS 7 t).1) (nS 6 (nS 7 t)):=rfl;generalize hn:aB 6 (nS 7 t).1=N at hN hs ⊢;generalize nS 6 (nS 7 t)=s at hs ⊢;clear hn;refine eA (fun i:PI HZ 7 N s=>FrD b rb w (fun _=>True) (Rz b rb i.t) 275 2 (.slice i.a i.j i.c) (i.L.map spV)) (fun i=>⟨mkT i.x (aMb b N i) 0 53,[[.i .i64 (.l 0),.v (.slice none 0 0),.i .i64 (.l 0),.i .i64 (.l 0)],[.i .i64 (.cv .i64 (.x fun _=>(aB 7 t.1:Nat))),.sl (fun _=>i.a) (fun _=>i.j) (fun _=>i.c),.i .i64 (.l 0),.i .i64 (.l 0)]]⟩) (fun i=>N-i.j) 53 (fun B w1 F=>?_) ?_
 ·exact⟨PI.zero _ _ _ _ _,aMb b N (PI.zero HZ 7 N s fun _=>undef),rfl,⟨rfl,rfl,rfl,rfl,rfl,rfl,trivial⟩,F⟩
 intro i J hJ;refine ga env fd plRt14 ?_;refine⟨fun q=>?_,fun q=>?_⟩
 ·have hlt:i.j<N:=by simpa [BE.den,cmpB,IE.den] using q
  clear q;refine ga env fd plRt14 ?_;refine bY HZ _ rfl (by decide) ?_;refine ga env fd plRt14 ?_;refine bY 7 _ rfl (by decide) ?_;refine ga env fd plRt14 ?_;have hlen:(i.L.map spV).length=i.j:=by rw[List.length_map,i.hL]
  refine jI oV hlen (Nat.le_trans (Nat.le_of_lt hlt) (Nat.le_trans hN (by decide))) ?_;intro a' g c';refine ga env fd plRt14 ?_;refine fC 53 hJ (fun B v F=>?_);refine⟨i.next hlt a' c' _,aMb b N (i.next hlt a' c' fun _=>undef),by show N-(i.j+1)<N-i.j;omega,rfl,⟨rfl,rfl,rfl,rfl,rfl,?_,trivial⟩,?_⟩
  ·simp only[AV.den,IE.den,getT];rw[show ((i.j:Nat):Int)+1=((i.j+1:Nat):Int) from rfl,wrU (by omega)];rfl
  ·have e:(i.next hlt a' c' (fun _=>undef)).L.map spV=i.L.map spV ++ [AV.denL (fun _=>0) [.i .i64 (.cv .i64 (.x fun _=>(aB HZ i.t.1:Nat))),.i .i64 (.cv .i64 (.x fun _=>(aB 7 (nS HZ i.t).1:Nat)))]]:=by
    simp only[PI.next,List.map_append,List.map_cons,List.map_nil,spV,AV.denL,AV.den,IE.den];rw[cT (aD HZ _) (by decide),cT (aD 7 _) (by decide)]
   show FrD b rb w (fun _=>True) (Rz b rb (nS 7 (nS HZ i.t))) 275 2 (.slice a' (i.j+1) c') ((i.next hlt a' c' (fun _=>undef)).L.map spV) v _;rw[e];exact F
 have hje:i.j=N:=by
  have:¬i.j<N:=by simpa [BE.den,cmpB,IE.den] using q
  have:=i.hj;omega
 clear q hJ;obtain⟨hl,ht⟩:=i.last hje;rw[<- hs]at hl ht;have hjl:=i.hL;rw[ht,hl,<- hjl,hl];generalize i.a=a0;generalize i.c=c0;clear hl ht hjl hje hs hN;refine ga env fd plRt14 ?_;refine bY 8 _ rfl (by decide) ?_;refine ga env fd plRt14 ?_;refine bY 1048576 _ rfl (by decide) ?_;refine ga env fd plRt14 ?_;refine bH (.pa fun _=>⟨b,1,none⟩) (fun B v F=>rZ (b:=b) (off:=0) (k:=1) bF rfl (by rw[St.aC];rfl) rfl rfl rfl rfl) ?_;refine ga env fd plRt14 ?_;cases hbd:(nS 1048576 (nS 8 (lvS (nS 7 t)).2)).2 with
 | true =>
  have hR:dB t=(bK,([],true),false):=if_pos (.inl hbd);refine bH (.b (.l true)) (fun B v F=>iN (b:=b) (off:=1) bF rfl (by rw[St.aC];rfl) rfl rfl (F.z.bad hbd)) ?_;refine ga env fd plRt14 ?_;refine pD ?_;refine ga env fd plRt14 ?_;refine fa env fd ?_;intro B v F;unfold mW;rw[hR];exact⟨none,0,rfl,fun u _=>bZ.zero u,F.z,F.kept⟩
 | false =>
  refine bH (.b (.l false)) (fun B v F=>iN (b:=b) (off:=1) bF rfl (by rw[St.aC];rfl) rfl rfl (F.z.bad hbd)) ?_;refine ga env fd plRt14 ?_;intro B v F;have hk:bZ v (fN t).1 a0 (lvS (nS 7 t)).1.length c0:=⟨aU.cX F.own,rfl,Nat.le_trans (nQ _) (by decide)⟩;have hc:=rG (fN t).1 a0 _ c0 v hk;have hcv:(fN t).1=⟨aB 7 t.1,(lvS (nS 7 t)).1,aB 8 (lvS (nS 7 t)).2.1,aB 1048576 (nS 8 (lvS (nS 7 t)).2).1⟩:=rfl;have h7:IntKind.i64.wrap (aB 7 t.1:Nat)=(aB 7 t.1:Nat):=cT (aD 7 _) (by decide);have h8:IntKind.i64.wrap (aB 8 (lvS (nS 7 t)).2.1:Nat)=(aB 8 (lvS (nS 7 t)).2.1:Nat):=cT (aD 8 _) (by decide);have h1:IntKind.i64.wrap (aB 1048576 (nS 8 (lvS (nS 7 t)).2).1:Nat)=(aB 1048576 (nS 8 (lvS (nS 7 t)).2).1:Nat):=cT (aD 1048576 _) (by decide);simp only[AV.denL,AV.den,IE.den,h7,h8,h1];refine hc.mono ?_;rintro e w5 ⟨rfl,hb⟩;refine⟨.b (.x fun _=>eD (fN t).1),_,rfl,fd.b,F.call hb,?_⟩;clear F hb;refine ga env fd plRt14 ?_;cases hok:eD (fN t).1 with
  | false =>
   have hR:dB t=(bK,([],true),false):=if_pos (.inr hok);refine⟨fun q=>?_,fun q=>absurd q (by simp[BE.den])⟩;refine ga env fd plRt14 ?_;refine pD ?_;refine ga env fd plRt14 ?_;refine fa env fd ?_;intro B v F;unfold mW;rw[hR];exact⟨none,0,rfl,fun u _=>bZ.zero u,F.z,F.kept⟩
  | true =>
   have hR:dB t=((fN t).1,(fN t).2,true):=if_neg (fun h=>h.elim (fun h=>by have h:(nS 1048576 (nS 8 (lvS (nS 7 t)).2)).2=true:=h;rw[hbd]at h;cases h) fun h=>by rw[hok]at h;cases h);refine⟨fun q=>absurd q (by simp[BE.den]),fun q=>?_⟩;refine ga env fd plRt14 ?_;refine fa env fd ?_;intro B v F;unfold mW;rw[hR];have F:=F.kX 275 2;refine⟨a0,c0,?_,F.old.imp fun u h=>⟨aU.cX h.1,rfl,Nat.le_trans (nQ _) (by decide)⟩,F.z,F.kept⟩;simp only[resV,AV.denL,AV.den,IE.den,h7,h8,h1];rfl
def aL9 {m1 m2 n:Nat}{t0:RS}(b N:Nat)(i:PI m1 m2 n t0):List (Nat × AV):=[(0,.pa (fun _=>⟨b,0,none⟩)),(1,.p 0 0),(2,.p 1 0),(3,.b (.l false)),(4,.f (.func 182) [] [.p 0 0]),(5,.p 2 0),(12,.i .i64 (.x fun _=>(N:Nat))),(13,.i .i64 (.x fun _=>(i.j:Int)))]
theorem sS {b rb:Nat}{w:World}{t:RS}(h:aE w b rb t.1 t.2)(hr:rb<w.heap.size):Calls Tryz.prog 122 #[.pointer (some ⟨b,0,none⟩)] w (mW b rb t w):=by
 have F0:FrD b rb w (fun _=>True) (Rz b rb t) 275 2 (.slice none 0 0) [] w []:=FrD.start w h.lt hr _ _ (Sf.all _ _) fun u bu=>h.below bu;refine enter (F:=FrD b rb w (fun _=>True) (Rz b rb t) 275 2 (.slice none 0 0) []) (fun _=>0) [.pa (fun _=>⟨b,0,none⟩)] [] Tryz.func122 rfl rfl F0 47 rfl ?_;clear F0 h;refine ga env fd plRt ?_;refine mP 7 _ rfl (by decide) ?_;refine ga env fd plRt ?_;refine mP 6 _ rfl (by decide) ?_;refine ga env fd plRt ?_;have hN:aB 6 (nS 7 t).1<=6:=aD _ _;have hs:lvS (nS 7 t)=prS HZ 7 (aB 6 (nS 7 t).1) (nS 6 (nS 7 t)):=rfl;generalize hn:aB 6 (nS 7 t).1=N at hN hs ⊢;generalize nS 6 (nS 7 t)=s at hs ⊢;clear hn;refine eA (fun i:PI HZ 7 N s=>FrD b rb w (fun _=>True) (Rz b rb i.t) 275 2 (.slice i.a i.j i.c) (i.L.map spV)) (fun i=>⟨mkT i.x (aL9 b N i) 0 48,[[.pa (fun _=>⟨b,0,none⟩)],[.i .i64 (.l 0),.v (.slice none 0 0),.i .i64 (.l 0),.i .i64 (.l 0)],[.i .i64 (.x fun _=>(aB 7 t.1:Nat)),.sl (fun _=>i.a) (fun _=>i.j) (fun _=>i.c),.i .i64 (.l 0),.i .i64 (.l 0)]]⟩) (fun i=>N-i.j) 48 (fun B w1 F=>?_) ?_
 ·exact⟨PI.zero _ _ _ _ _,aL9 b N (PI.zero HZ 7 N s fun _=>undef),rfl,⟨rfl,rfl,rfl,rfl,rfl,rfl,rfl,rfl,trivial⟩,F⟩
 intro i J hJ;refine ga env fd plRt ?_;refine⟨fun q=>?_,fun q=>?_⟩
 ·have hlt:i.j<N:=by simpa [BE.den,cmpB,IE.den] using q
  clear q;refine ga env fd plRt ?_;refine mP HZ _ rfl (by decide) ?_;refine ga env fd plRt ?_;refine mP 7 _ rfl (by decide) ?_;refine ga env fd plRt ?_;have hlen:(i.L.map spV).length=i.j:=by rw[List.length_map,i.hL]
  refine jI oV hlen (Nat.le_trans (Nat.le_of_lt hlt) (Nat.le_trans hN (by decide))) ?_;intro a' g c';refine ga env fd plRt ?_;refine fC 48 hJ (fun B v F=>?_);refine⟨i.next hlt a' c' _,aL9 b N (i.next hlt a' c' fun _=>undef),by show N-(i.j+1)<N-i.j;omega,rfl,⟨rfl,rfl,rfl,rfl,rfl,rfl,rfl,?_,trivial⟩,?_⟩
  ·simp only[AV.den,IE.den,getT];rw[show ((i.j:Nat):Int)+1=((i.j+1:Nat):Int) from rfl,cT (Nat.le_refl _) (by omega)];rfl
  ·have e:(i.next hlt a' c' (fun _=>undef)).L.map spV=i.L.map spV ++ [AV.denL (fun _=>0) [.i .i64 (.x fun _=>(aB HZ i.t.1:Nat)),.i .i64 (.x fun _=>(aB 7 (nS HZ i.t).1:Nat))]]:=by
    simp only[PI.next,List.map_append,List.map_cons,List.map_nil,spV,AV.denL,AV.den,IE.den]
   show FrD b rb w (fun _=>True) (Rz b rb (nS 7 (nS HZ i.t))) 275 2 (.slice a' (i.j+1) c') ((i.next hlt a' c' (fun _=>undef)).L.map spV) v _;rw[e];exact F
 have hje:i.j=N:=by
  have:¬i.j<N:=by simpa [BE.den,cmpB,IE.den] using q
  have:=i.hj;omega
 clear q hJ;obtain⟨hl,ht⟩:=i.last hje;rw[<- hs]at hl ht;have hjl:=i.hL;rw[ht,hl,<- hjl,hl];generalize i.a=a0;generalize i.c=c0;clear hl ht hjl hje hs hN;refine ga env fd plRt ?_;refine mP 8 _ rfl (by decide) ?_;refine ga env fd plRt ?_;refine mP 1048576 _ rfl (by decide) ?_;refine ga env fd plRt ?_;refine aID ?_;refine ga env fd plRt ?_;cases hbd:(nS 1048576 (nS 8 (lvS (nS 7 t)).2)).2 with
 | true =>
  have hR:dB t=(bK,([],true),false):=if_pos (.inl hbd);refine aH 39 true rfl ?_;refine ga env fd plRt ?_;refine pB ?_;refine ga env fd plRt ?_;refine fa env fd ?_;intro B v F;unfold mW;rw[hR];exact⟨none,0,rfl,fun u _=>bZ.zero u,F.z,F.kept⟩
 | false =>
  refine aH 39 false rfl ?_;refine ga env fd plRt ?_;intro B v F;have hk:bZ v (fN t).1 a0 (lvS (nS 7 t)).1.length c0:=⟨aU.cX F.own,rfl,Nat.le_trans (nQ _) (by decide)⟩;have hc:=kV (fN t).1 a0 _ c0 v hk;refine hc.mono ?_;rintro e w5 ⟨rfl,hb⟩;refine⟨.i .i64 (.x fun _=>(if eD (fN t).1 then (0:Int) else 2)),_,rfl,fd.b,F.call hb,?_⟩;clear F hb;refine ga env fd plRt ?_;cases hok:eD (fN t).1 with
  | false =>
   have hR:dB t=(bK,([],true),false):=if_pos (.inr hok);refine⟨fun q=>?_,fun q=>absurd q (by simp[BE.den,cmpB,IE.den])⟩;refine ga env fd plRt ?_;refine pB ?_;refine ga env fd plRt ?_;refine fa env fd ?_;intro B v F;unfold mW;rw[hR];exact⟨none,0,rfl,fun u _=>bZ.zero u,F.z,F.kept⟩
  | true =>
   have hR:dB t=((fN t).1,(fN t).2,true):=if_neg (fun h=>h.elim (fun h=>by have h:(nS 1048576 (nS 8 (lvS (nS 7 t)).2)).2=true:=h;rw[hbd]at h;cases h) fun h=>by rw[hok]at h;cases h);refine⟨fun q=>absurd q (by simp[BE.den,cmpB,IE.den]),fun q=>?_⟩;refine ga env fd plRt ?_;refine fa env fd ?_;intro B v F;unfold mW;rw[hR];have F:=F.kX 275 2;refine⟨a0,c0,?_,F.old.imp fun u h=>⟨aU.cX h.1,rfl,Nat.le_trans (nQ _) (by decide)⟩,F.z,F.kept⟩;rfl

def dL (k:Int):Bool:=decide (1<=k)&&decide (k<=12)
def idB (k:Int):Bool:=dL k && !(k==1) && !(k==9)
theorem xT (k:Int)(w:World):Calls Tryz.prog 120 #[.int .i64 k] w fun e w'=>e = .returned (.tuple #[.agg #[.bool (idB k),.bool (k==2),.bool (k==3),.bool (k==4),.bool (k==9)],.bool (dL k)])/\Below w.heap.size w w':=by
 have F0:Fo [] (fun _=>False) w (fun _=>True) w []:=Fo.start nofun fun _ _=>trivial;by_cases hk:k<1\/12<k
 ·have e1:dL k=false:=by unfold dL;rw[Bool.and_eq_false_iff];simp only[decide_eq_false_iff_not];omega
  have e2:idB k=false:=by unfold idB;rw[e1];rfl
  have n2:(k==2)=false:=beq_eq_false_iff_ne.2 (by omega);have n3:(k==3)=false:=beq_eq_false_iff_ne.2 (by omega);have n4:(k==4)=false:=beq_eq_false_iff_ne.2 (by omega);have n9:(k==9)=false:=beq_eq_false_iff_ne.2 (by omega);rw[e1,e2,n2,n3,n4,n9];refine enter (fun _=>0) [.i .i64 (.x fun _=>k)] [] Tryz.func120 rfl rfl F0 30 rfl ?_;refine ga env (Fo.frm _ _ _ _ _ rfl) aA ?_;refine⟨fun q=>?_,fun _=>?_⟩
  ·have:k=9:=by simpa [BE.den,cmpB,IE.den] using q
   omega
  refine ga env (Fo.frm _ _ _ _ _ rfl) aA ?_;refine⟨fun q=>?_,fun _=>?_⟩
  ·have:k=1:=by simpa [BE.den,cmpB,IE.den] using q
   omega
  refine ga env (Fo.frm _ _ _ _ _ rfl) aA ?_;refine⟨fun q=>?_,fun _=>?_⟩
  ·have:k=2:=by simpa [BE.den,cmpB,IE.den] using q
   omega
  refine ga env (Fo.frm _ _ _ _ _ rfl) aA ?_;refine⟨fun q=>?_,fun _=>?_⟩
  ·have:k=3:=by simpa [BE.den,cmpB,IE.den] using q
   omega
  refine ga env (Fo.frm _ _ _ _ _ rfl) aA ?_;refine⟨fun q=>?_,fun _=>?_⟩
  ·have:k=4:=by simpa [BE.den,cmpB,IE.den] using q
   omega
  refine ga env (Fo.frm _ _ _ _ _ rfl) aA ?_;refine⟨fun q=>?_,fun _=>?_⟩
  ·have:k=5:=by simpa [BE.den,cmpB,IE.den] using q
   omega
  refine ga env (Fo.frm _ _ _ _ _ rfl) aA ?_;refine⟨fun q=>?_,fun _=>?_⟩
  ·have:k=6:=by simpa [BE.den,cmpB,IE.den] using q
   omega
  refine ga env (Fo.frm _ _ _ _ _ rfl) aA ?_;refine⟨fun q=>?_,fun _=>?_⟩
  ·have:k=7:=by simpa [BE.den,cmpB,IE.den] using q
   omega
  refine ga env (Fo.frm _ _ _ _ _ rfl) aA ?_;refine⟨fun q=>?_,fun _=>?_⟩
  ·have:k=8:=by simpa [BE.den,cmpB,IE.den] using q
   omega
  refine ga env (Fo.frm _ _ _ _ _ rfl) aA ?_;refine⟨fun q=>?_,fun _=>?_⟩
  ·have:k=10:=by simpa [BE.den,cmpB,IE.den] using q
   omega
  refine ga env (Fo.frm _ _ _ _ _ rfl) aA ?_;refine⟨fun q=>?_,fun _=>?_⟩
  ·have:k=11:=by simpa [BE.den,cmpB,IE.den] using q
   omega
  refine ga env (Fo.frm _ _ _ _ _ rfl) aA ?_;refine⟨fun q=>?_,fun _=>?_⟩
  ·have:k=12:=by simpa [BE.den,cmpB,IE.den] using q
   omega
  refine ga env (Fo.frm _ _ _ _ _ rfl) aA ?_;refine fa env (Fo.frm _ _ _ _ _ rfl) ?_;intro B v F;exact⟨rfl,F.bel⟩
 ·have hk2:k=1\/k=2\/k=3\/k=4\/k=5\/k=6\/k=7\/k=8\/k=9\/k=10\/k=11\/k=12:=by omega
  rcases hk2 with rfl|rfl|rfl|rfl|rfl|rfl|rfl|rfl|rfl|rfl|rfl|rfl
  all_goals
   refine enter (fun _=>0) [.i .i64 (.l _)] [] Tryz.func120 rfl rfl F0 30 rfl ?_;refine ga env (Fo.frm _ _ _ _ _ rfl) aA ?_;refine fa env (Fo.frm _ _ _ _ _ rfl) ?_;intro B v F;exact⟨rfl,F.bel⟩

def plSd:Nat->Option Pl
 | 2=>some ⟨[0,1,3,7,15,31,63,127,255,255,1023,255,4095,8191,16383,32767],1024,[.h [0,1,2,3,4,5,6,7,8,9,11],.o 10,.o 12,.h [13,14,15]],[]⟩
 | _=>none
def plRs:Nat->Option Pl
 | 1=>some ⟨[0,1,3,7,15,31,63,127,255,511,1023,2047,4095,8191,16383,32767,16383,131071,262143,524287],32768,[.h [0,1,2,3,4,5,6,7,8,9,10,11,12,13,14,16],.o 15,.o 17,.h [18,19]],[]⟩
 | _=>none

def jJ (k:IE)(c:dR)(A:gS):List AV:=[.i .i64 k,.i .u64 (.x fun _=>c.cl),.i .u64 (.x fun _=>c.rq),.i .u64 (.x fun _=>c.id),.i .i64 (.x fun _=>c.ct),.i .i64 (.x fun _=>c.at'),.i .i64 (.x fun _=>c.cal.o),.sl (fun _=>A.wa) (fun _=>A.wn) (fun _=>A.wc),.sl (fun _=>A.ca) (fun _=>A.cn) (fun _=>A.cc),.i .i64 (.x fun _=>c.tm.c),.sl (fun _=>A.la) (fun _=>A.ln) (fun _=>A.lc),.i .i64 (.x fun _=>c.tm.r),.i .i64 (.x fun _=>c.tm.b)]
def aIr (id cal tm ct at':Bool)(c:dR):dR:=⟨c.k,c.cl,c.rq,if id then c.id else 0,if ct then c.ct else 0,if at' then c.at' else 0,if cal then c.cal else bJ,if tm then c.tm else bK⟩
def aIq (cal tm:Bool)(A:gS):gS:=⟨if cal then A.wa else none,if cal then A.wn else 0,if cal then A.wc else 0,if cal then A.ca else none,if cal then A.cn else 0,if cal then A.cc else 0,if tm then A.la else none,if tm then A.ln else 0,if tm then A.lc else 0⟩
def kT (c:dR):dR:=aIr (idB c.k) (c.k==2) (c.k==3) (c.k==4) (c.k==9) c
def uH (k:Int)(A:gS):gS:=aIq (k==2) (k==3) A
theorem aS.only {w:World}{c:dR}{A:gS}(h:aS w c A)(id cal tm ct at':Bool):aS w (aIr id cal tm ct at' c) (aIq cal tm A):=by
 refine⟨?_,?_,?_,?_⟩
 ·cases cal
  ·exact cD.zero w
  ·exact h.cal
 ·cases tm
  ·exact bZ.zero w
  ·exact h.tm
 ·cases at'
  ·show (-9223372036854775808:Int)<=0;decide
  ·exact h.at0
 ·cases at'
  ·show (0:Int)<9223372036854775808;decide
  ·exact h.at1
theorem zN (c:dR)(A:gS)(id cal tm ct at':Bool)(w:World):Calls Tryz.prog 135 #[.agg (iL c A).toArray,.agg #[.bool id,.bool cal,.bool tm,.bool ct,.bool at']] w fun e w'=>e = .returned (.agg (iL (aIr id cal tm ct at' c) (aIq cal tm A)).toArray)/\Below w.heap.size w w':=by
 have F0:Fo [] (fun _=>False) w (fun _=>True) w []:=Fo.start nofun fun _ _=>trivial;cases id<;>cases cal<;>cases tm<;>cases ct<;>cases at'
 all_goals
  refine enter (fun _=>0) [.g (jJ (.x fun _=>c.k) c A),.g [.b (.l _),.b (.l _),.b (.l _),.b (.l _),.b (.l _)]] [] Tryz.func135 rfl rfl F0 26 rfl ?_;refine ga env (Fo.frm _ _ _ _ _ rfl) aA ?_;refine fa env (Fo.frm _ _ _ _ _ rfl) ?_;intro B v F;exact⟨rfl,F.bel⟩
theorem zU (c:dR)(A:gS)(w:World)(hk:1<=c.k/\c.k<=12):Calls Tryz.prog 139 #[.agg (iL c A).toArray] w fun e w'=>e = .returned (.agg (iL (kT c) (uH c.k A)).toArray)/\Below w.heap.size w w':=by
 have F0:Fo [] (fun _=>False) w (fun _=>True) w []:=Fo.start nofun fun _ _=>trivial;obtain⟨k,cl,rq,id,ct,at1,cal,tm⟩:=c;simp only at hk;have hk2:k=1\/k=2\/k=3\/k=4\/k=5\/k=6\/k=7\/k=8\/k=9\/k=10\/k=11\/k=12:=by omega
 rcases hk2 with rfl|rfl|rfl|rfl|rfl|rfl|rfl|rfl|rfl|rfl|rfl|rfl
 all_goals
  refine enter (fun _=>0) [.g (jJ (.l _) ⟨_,cl,rq,id,ct,at1,cal,tm⟩ A)] [] Tryz.func139 rfl rfl F0 44 rfl ?_;refine ga env (Fo.frm _ _ _ _ _ rfl) aA ?_;refine fa env (Fo.frm _ _ _ _ _ rfl) ?_;intro B v F;exact⟨rfl,F.bel⟩

def cR (c:dR):Bool:=dL c.k&&(decide (c.cl<=8)&&(decide (kT c=c)&&(if c.k=2 then cF c.cal==0 else if c.k=3 then eD c.tm else decide (0<=c.ct)&&decide (c.ct<=15))))
theorem fM {c:dR}(h:dL c.k=false):cR c=false:=by unfold cR;rw[h];rfl
theorem tT {c:dR}(h:¬c.cl<=8):cR c=false:=by unfold cR;rw[decide_eq_false h,Bool.false_and,Bool.and_false]
theorem oD {c:dR}(h:decide (kT c=c)=false):cR c=false:=by unfold cR;rw[h,Bool.false_and,Bool.and_false,Bool.and_false]
theorem oE {c:dR}(h0:dL c.k=true)(h1:c.cl<=8)(h2:decide (kT c=c)=true):cR c=(if c.k=2 then cF c.cal==0 else if c.k=3 then eD c.tm else decide (0<=c.ct)&&decide (c.ct<=15)):=by unfold cR;rw[h0,decide_eq_true h1,h2,Bool.true_and,Bool.true_and,Bool.true_and]
theorem zM (c:dR)(A:gS)(w:World):Calls Tryz.prog 135 #[.agg (iL c A).toArray,.agg #[.bool (idB c.k),.bool (c.k==2),.bool (c.k==3),.bool (c.k==4),.bool (c.k==9)]] w fun e w'=>e = .returned (.agg (iL (kT c) (uH c.k A)).toArray)/\Below w.heap.size w w':=zN c A _ _ _ _ _ w
theorem aS.kept {w:World}{c:dR}{A:gS}(h:aS w c A):aS w (kT c) (uH c.k A):=h.only _ _ _ _ _
theorem cM (c:dR)(A:gS)(w:World)(h:aS w c A):Calls Tryz.prog 93 #[.agg (iL c A).toArray] w fun e w'=>e = .returned (.bool (cR c))/\Below w.heap.size w w':=by
 have F0:Fo [] (fun _=>False) w (fun v=>Below w.heap.size w v/\aS v c A) w []:=Fo.start nofun fun _ bv=>⟨bv,h.below bv⟩;clear h;refine enter (fun _=>0) [.g (jJ (.x fun _=>c.k) c A)] [] Tryz.func93 rfl rfl F0 48 rfl ?_;refine ga env (Fo.frm _ _ _ _ 0 rfl) plSd ?_;intro B v F;refine(xT c.k v).mono ?_;rintro e w2 ⟨rfl,hb⟩;cases hn:dL c.k with
 | false =>
  rw[fM hn];refine⟨.t [.g [.b (.x fun _=>idB c.k),.b (.x fun _=>c.k==2),.b (.x fun _=>c.k==3),.b (.x fun _=>c.k==4),.b (.x fun _=>c.k==9)],.b (.l false)],_,rfl,(Fo.frm _ _ _ _ _ rfl).b,F.on hb,?_⟩;clear F hb;refine ga env (Fo.frm _ _ _ _ 1 rfl) plSd ?_;refine fa env (Fo.frm _ _ _ _ 1 rfl) ?_;intro B v F;exact⟨rfl,F.now.1⟩
 | true =>
 refine⟨.t [.g [.b (.x fun _=>idB c.k),.b (.x fun _=>c.k==2),.b (.x fun _=>c.k==3),.b (.x fun _=>c.k==4),.b (.x fun _=>c.k==9)],.b (.l true)],_,rfl,(Fo.frm _ _ _ _ _ rfl).b,F.on hb,?_⟩;clear F hb;refine ga env (Fo.frm _ _ _ _ 1 rfl) plSd ?_;by_cases hcl:c.cl<=8
 case neg =>
  rw[tT hcl];refine aH 19 true (e:=.cmp .gtr (.x fun _=>c.cl) (.l 8)) (decide_eq_true (show c.cl > 8 by omega)) ?_;refine ga env (Fo.frm _ _ _ _ 1 rfl) plSd ?_;refine fa env (Fo.frm _ _ _ _ 1 rfl) ?_;intro B v F;exact⟨rfl,F.now.1⟩
 refine aH 19 false (e:=.cmp .gtr (.x fun _=>c.cl) (.l 8)) (decide_eq_false (show ¬c.cl > 8 by omega)) ?_;refine ga env (Fo.frm _ _ _ _ 1 rfl) plSd ?_;intro B v F;refine(zM c A v).mono ?_;rintro e w2 ⟨rfl,hb⟩;have hkp:=fun u (bu:Below w2.heap.size w2 u)=>(F.later (v:=u) (hb.trans (bu.mono hb.size))).2.kept;generalize uH c.k A=A1 at hkp ⊢;generalize hc1:kT c=c1 at hkp ⊢;refine⟨.g (jJ (.x fun _=>c1.k) c1 A1),_,rfl,(Fo.frm _ _ _ _ _ rfl).b,F.step hb (Z:=fun v=>aS v c1 A1) hkp,?_⟩;clear F hb hkp;refine ga env (Fo.frm _ _ _ _ 2 rfl) plSd ?_;intro B v F;refine(mC c1 c A1 A v F.now.1 F.now.2.2).mono ?_;rintro e w2 ⟨rfl,hb⟩;subst hc1;have hq:=@oE c hn hcl;have hq2:=@oD c;generalize decide (kT c=c)=q0 at hq hq2 ⊢;refine⟨.b (.x fun _=>q0),_,rfl,(Fo.frm _ _ _ _ _ rfl).b,F.on hb,?_⟩;clear F hb;cases q0 with
 | false =>
  rw[hq2 rfl];refine ga env (Fo.frm _ _ _ _ 2 rfl) plSd ?_;refine⟨fun q=>?_,fun q=>(by cases q)⟩;refine ga env (Fo.frm _ _ _ _ 2 rfl) plSd ?_;refine fa env (Fo.frm _ _ _ _ 2 rfl) ?_;intro B v F;exact⟨rfl,F.now.2.1⟩
 | true =>
 rw[hq rfl];clear hq hq2;refine ga env (Fo.frm _ _ _ _ 2 rfl) plSd ?_;refine⟨fun q=>(by cases q),fun q=>?_⟩;refine ga env (Fo.frm _ _ _ _ 2 rfl) plSd ?_;refine⟨fun q=>?_,fun q=>?_⟩
 ·rw[if_pos (by simpa [BE.den] using q)];refine ga env (Fo.frm _ _ _ _ 2 rfl) plSd ?_;intro B v F;refine(kU c.cal A.wa _ _ A.ca _ _ v F.now.2.2.cal).mono ?_;rintro e w2 ⟨rfl,hb⟩;refine⟨.i .i64 (.x fun _=>cF c.cal),_,rfl,(Fo.frm _ _ _ _ _ rfl).b,F.on hb,?_⟩;clear F hb;refine ga env (Fo.frm _ _ _ _ 2 rfl) plSd ?_;refine fa env (Fo.frm _ _ _ _ 2 rfl) ?_;intro B v F;exact⟨rfl,F.now.2.1⟩
 rw[if_neg (by simpa [BE.den] using q)];refine ga env (Fo.frm _ _ _ _ 2 rfl) plSd ?_;refine⟨fun q=>?_,fun q=>?_⟩
 ·rw[if_pos (by simpa [BE.den] using q)];refine ga env (Fo.frm _ _ _ _ 2 rfl) plSd ?_;intro B v F;refine(kV c.tm A.la _ _ v F.now.2.2.tm).mono ?_;rintro e w2 ⟨rfl,hb⟩;refine⟨.i .i64 (.x fun _=>if eD c.tm then (0:Int) else 2),_,rfl,(Fo.frm _ _ _ _ _ rfl).b,F.on hb,?_⟩;clear F hb;refine ga env (Fo.frm _ _ _ _ 2 rfl) plSd ?_;refine fa env (Fo.frm _ _ _ _ 2 rfl) ?_;intro B v F;refine⟨?_,F.now.2.1⟩;show Ending.returned (.bool ((if eD c.tm then (0:Int) else 2)==0))=_;cases h:eD c.tm<;>simp
 rw[if_neg (by simpa [BE.den] using q)];refine ga env (Fo.frm _ _ _ _ 2 rfl) plSd ?_;by_cases hct:0<=c.ct
 case neg =>
  refine aH 44 false (e:=.cmp .geq (.x fun _=>c.ct) (.l 0)) (decide_eq_false hct) ?_;refine ga env (Fo.frm _ _ _ _ 2 rfl) plSd ?_;refine fa env (Fo.frm _ _ _ _ 2 rfl) ?_;intro B v F;refine⟨?_,F.now.2.1⟩;rw[decide_eq_false hct];rfl
 refine aH 44 true (e:=.cmp .geq (.x fun _=>c.ct) (.l 0)) (decide_eq_true hct) ?_;refine ga env (Fo.frm _ _ _ _ 2 rfl) plSd ?_;refine fa env (Fo.frm _ _ _ _ 2 rfl) ?_;intro B v F;refine⟨?_,F.now.2.1⟩;rw[decide_eq_true hct,Bool.true_and];show Ending.returned (.bool (decide (c.ct<16)))=_;rw[decide_eq_decide.2 (show c.ct<16 ↔ c.ct<=15 by omega)]
theorem cY (c:dR)(A:gS)(w:World)(h:aS w c A):Calls Tryz.prog 96 #[.agg (iL c A).toArray] w fun e w'=>e = .returned (.bool (cR c))/\Below w.heap.size w w':=by
 have F0:Fo [] (fun _=>False) w (fun v=>Below w.heap.size w v/\aS v c A) w []:=Fo.start nofun fun _ bv=>⟨bv,h.below bv⟩;clear h;refine enter (fun _=>0) [.g (jJ (.x fun _=>c.k) c A)] [] Tryz.func96 rfl rfl F0 43 rfl ?_;refine ga env (Fo.frm _ _ _ _ 0 rfl) plRs ?_;by_cases h1:c.k<1
 ·rw[fM (by unfold dL;rw[decide_eq_false (by omega:¬1<=c.k)];rfl)];refine aH 6 true (e:=.cmp .lss (.x fun _=>c.k) (.l 1)) (decide_eq_true h1) ?_;refine ga env (Fo.frm _ _ _ _ 0 rfl) plRs ?_;refine fa env (Fo.frm _ _ _ _ 0 rfl) ?_;intro B v F;exact⟨rfl,F.bel⟩
 refine aH 6 false (e:=.cmp .lss (.x fun _=>c.k) (.l 1)) (decide_eq_false h1) ?_;refine ga env (Fo.frm _ _ _ _ 0 rfl) plRs ?_;by_cases h12:c.k > 12
 ·rw[fM (by unfold dL;rw[decide_eq_false (by omega:¬c.k<=12),Bool.and_false])];refine aH 11 true (e:=.cmp .gtr (.x fun _=>c.k) (.l 12)) (decide_eq_true h12) ?_;refine ga env (Fo.frm _ _ _ _ 0 rfl) plRs ?_;refine fa env (Fo.frm _ _ _ _ 0 rfl) ?_;intro B v F;exact⟨rfl,F.bel⟩
 refine aH 11 false (e:=.cmp .gtr (.x fun _=>c.k) (.l 12)) (decide_eq_false h12) ?_;refine ga env (Fo.frm _ _ _ _ 0 rfl) plRs ?_;have hn:dL c.k=true:=by unfold dL;rw[decide_eq_true (by omega:1<=c.k),decide_eq_true (by omega:c.k<=12)];rfl
 by_cases hcl:c.cl<=8
 case neg =>
  rw[tT hcl];refine aH 16 true (e:=.cmp .gtr (.x fun _=>c.cl) (.l 8)) (decide_eq_true (show c.cl > 8 by omega)) ?_;refine ga env (Fo.frm _ _ _ _ 0 rfl) plRs ?_;refine fa env (Fo.frm _ _ _ _ 0 rfl) ?_;intro B v F;exact⟨rfl,F.bel⟩
 refine aH 16 false (e:=.cmp .gtr (.x fun _=>c.cl) (.l 8)) (decide_eq_false (show ¬c.cl > 8 by omega)) ?_;refine ga env (Fo.frm _ _ _ _ 0 rfl) plRs ?_;intro B v F;refine(zU c A v ⟨by omega,by omega⟩).mono ?_;rintro e w2 ⟨rfl,hb⟩;have hkp:=fun u (bu:Below w2.heap.size w2 u)=>(F.later (v:=u) (hb.trans (bu.mono hb.size))).2.kept;generalize uH c.k A=A1 at hkp ⊢;generalize hc1:kT c=c1 at hkp ⊢;refine⟨.g (jJ (.x fun _=>c1.k) c1 A1),_,rfl,(Fo.frm _ _ _ _ _ rfl).b,F.step hb (Z:=fun v=>aS v c1 A1) hkp,?_⟩;clear F hb hkp;refine ga env (Fo.frm _ _ _ _ 1 rfl) plRs ?_;intro B v F;refine(iU c1 c A1 A v F.now.1 F.now.2.2).mono ?_;rintro e w2 ⟨rfl,hb⟩;subst hc1;have hq:=@oE c hn hcl;have hq2:=@oD c;generalize decide (kT c=c)=q0 at hq hq2 ⊢;refine⟨.b (.x fun _=>q0),_,rfl,(Fo.frm _ _ _ _ _ rfl).b,F.on hb,?_⟩;clear F hb;cases q0 with
 | false =>
  rw[hq2 rfl];refine ga env (Fo.frm _ _ _ _ 1 rfl) plRs ?_;refine⟨fun q=>?_,fun q=>(by cases q)⟩;refine ga env (Fo.frm _ _ _ _ 1 rfl) plRs ?_;refine fa env (Fo.frm _ _ _ _ 1 rfl) ?_;intro B v F;exact⟨rfl,F.now.2.1⟩
 | true =>
 rw[hq rfl];clear hq hq2;refine ga env (Fo.frm _ _ _ _ 1 rfl) plRs ?_;refine⟨fun q=>(by cases q),fun q=>?_⟩;refine ga env (Fo.frm _ _ _ _ 1 rfl) plRs ?_;refine⟨fun q=>?_,fun q=>?_⟩
 ·rw[if_pos (by simpa [BE.den,cmpB,IE.den] using q)];refine ga env (Fo.frm _ _ _ _ 1 rfl) plRs ?_;intro B v F;refine(kW c.cal A.wa _ _ A.ca _ _ v F.now.2.2.cal).mono ?_;rintro e w2 ⟨rfl,hb⟩;refine⟨.i .i64 (.x fun _=>cF c.cal),_,rfl,(Fo.frm _ _ _ _ _ rfl).b,F.on hb,?_⟩;clear F hb;refine ga env (Fo.frm _ _ _ _ 1 rfl) plRs ?_;refine fa env (Fo.frm _ _ _ _ 1 rfl) ?_;intro B v F;exact⟨rfl,F.now.2.1⟩
 rw[if_neg (by simpa [BE.den,cmpB,IE.den] using q)];refine ga env (Fo.frm _ _ _ _ 1 rfl) plRs ?_;refine⟨fun q=>?_,fun q=>?_⟩
 ·rw[if_pos (by simpa [BE.den,cmpB,IE.den] using q)];refine ga env (Fo.frm _ _ _ _ 1 rfl) plRs ?_;intro B v F;refine(rG c.tm A.la _ _ v F.now.2.2.tm).mono ?_;rintro e w2 ⟨rfl,hb⟩;refine⟨.b (.x fun _=>eD c.tm),_,rfl,(Fo.frm _ _ _ _ _ rfl).b,F.on hb,?_⟩;clear F hb;refine ga env (Fo.frm _ _ _ _ 1 rfl) plRs ?_;refine fa env (Fo.frm _ _ _ _ 1 rfl) ?_;intro B v F;exact⟨rfl,F.now.2.1⟩
 rw[if_neg (by simpa [BE.den,cmpB,IE.den] using q)];refine ga env (Fo.frm _ _ _ _ 1 rfl) plRs ?_;by_cases hct:0<=c.ct
 case neg =>
  refine aH 39 false (e:=.cmp .geq (.x fun _=>c.ct) (.l 0)) (decide_eq_false hct) ?_;refine ga env (Fo.frm _ _ _ _ 1 rfl) plRs ?_;refine fa env (Fo.frm _ _ _ _ 1 rfl) ?_;intro B v F;refine⟨?_,F.now.2.1⟩;rw[decide_eq_false hct];rfl
 refine aH 39 true (e:=.cmp .geq (.x fun _=>c.ct) (.l 0)) (decide_eq_true hct) ?_;refine ga env (Fo.frm _ _ _ _ 1 rfl) plRs ?_;refine fa env (Fo.frm _ _ _ _ 1 rfl) ?_;intro B v F;refine⟨?_,F.now.2.1⟩;rw[decide_eq_true hct,Bool.true_and];rfl
end Go.Proofs.YtgeihgombjbkbaaGreat
namespace Go.Proofs.Own
open Go Go.RowKit
theorem Fo.toD {w0 w w':World}{R Z':World->Prop}{L:Bx}{b rb:Nat}(F:Fo [] (fun _=>False) w0 R w L)(hb:Below w.heap.size w w')(e:TypeId)(sz:Nat)(hbs:w.heap.size<=b)(hlt:b<w'.heap.size)(hrb:rb<w0.heap.size)
  (hz:∀U:Nat->Prop,¬U b -> ¬U rb->Sf U w' Z'):FrD b rb w0 (fun _=>True) Z' e sz (.slice none 0 0) [] w' L:=by
 obtain⟨L',e,f⟩:=F;rw[List.nil_append]at e;subst e;have hw:=f.bel.size;have hr:∀k,k ∈ L.map (·.1)->w0.heap.size<=k/\k<w.heap.size:=fun k hk=>by
  obtain⟨p,hp,rfl⟩:=List.mem_map.1 hk;exact f.rng p hp
 refine⟨fun i p hp=>(f.box i p hp).below hb,f.inj,fun k hk=>?_,⟨hlt,?_⟩,?_,dC.nil _ _ _ _,nofun,fun _ _=>trivial,?_⟩
 ·have:=hr k hk;exact⟨this.1,by omega,by omega⟩
 ·have:=hb.size;omega
 ·exact Kept.aY (f.bel.trans (hb.mono hw)) (fun k h1 h2=>by omega)
 ·refine hz _ (fun h=>?_) (fun h=>?_)
  ·rcases h with h|h
   ·cases h
   ·have:=hr _ h;omega
  ·rcases h with h|h
   ·cases h
   ·have:=hr _ h;omega
section
variable {P:Program} {tt:TypeId->Option TI} {s:St} {B:Nat->Nat} {w:World} {Q:Exit->Act->World->Prop} {fs:FuncId->Bool} {F:World->Bx->Prop} {k:List KF}
theorem gn {k8:KB}(n:Nat)(E:Env P Q tt fs)(hF:Frm F k8)(pls:Nat->Option Pl){c:Cf}{o:Out}(h:bO P Q F k8 o)(hc:plCf pls c=true:=by kernel_rfl)(hk:plK pls k=true:=by kernel_rfl)(e:run tt k8 pls fs n c s k=o:=by cbv):Ok P Q F c s k:=go E hF n hc hk e h
theorem fW {k8:KB}{c:Cf}(j:Nat)(x a:AV)(h:∀B,x.den B=a.den B)(hk:Ok P Q F c ⟨setN s.tm j a,s.bx⟩ k)(hj:getT s.tm j=x:=by cbv):bO P Q F k8 (.at c s k):=aLP j a (fun B=>by rw[hj,h]) hk
theorem kG (hT:eE P tt){o:Oper}{t de:TypeId}{dl:Nat}{x ix:Operand}{ei:TI}{b off:Nat}{kk:IntKind}{i:Nat}(ho:o.op = .indexAddr t x ix)(hu:P.underlying t=some (.array dl de))(hde:tt de=some ei)(hx:(s.act B).eval x = .pointer (some ⟨b,off,none⟩))(hi:(s.act B).eval ix = .int kk (i:Int))(hlt:i<dl)(hn:(ei.n==0)=false) :
  (execOp (s.act B).eval o).run P w = .ok (.value (.pointer (some ⟨b,off+i*ei.n,none⟩))) w:=by
 obtain⟨dst,op,ty,pos,after,gd⟩:=o;simp only at ho;subst ho;simp only[execOp];refine aV ?_;have hs:=(hT _ _ hde).sizeOf (w:=w);have h2:(0:Int)<=(i:Int)/\(i:Int)<(dl:Int):=by omega
 have hn:ei.n≠0:=by simpa using hn
 rw[hi,hx];simp[Instr.indexAt,Instr.sureAddr,asIntOf,run_underlying hu,h2,hs,hlt,Addr.add_mid]
def unP (i:Nat)(a:Unit->Addr):List AV->List AV
 | []=>[]
 | .p j o::l=>(match Nat.beq j i with|true=>AV.pa fun _=>⟨(a ()).block,o,none⟩|false=>.p j o)::unP i a l
 | x::l=>x::unP i a l
theorem yF (i:Nat)(a:Unit->Addr)(h:B i=(a ()).block):∀l,AV.denL B (unP i a l)=AV.denL B l
 | []=>rfl
 | x::l=>by
  have ih:=yF i a h l;cases x
  case p j o =>
   rw[unP,AV.denL,AV.denL,ih]
   congr 1
   split
   ·rename_i e;rw[AV.den,AV.den,Nat.eq_of_beq_eq_true e,h]
   ·rfl
  all_goals rw[unP,AV.denL,AV.denL,ih];simp
theorem aIR {k8:KB}{c:Cf}(n:Nat)(h:∀B w,F w (mkB B 0 s.bx) -> ∃F2,F2 w (mkB B 0 (s.bx.take n))/\Ok P Q F2 c ⟨unP n (fun _=>⟨B n,0,none⟩) s.tm,s.bx.take n⟩ k)(hc:aIz c=true:=by rfl):bO P Q F k8 (.at c s k):=by
 show Ok P Q F c s k;intro B w H;obtain⟨F2,h1,h2⟩:=h B w H;have:=h2 B w h1;have ha:St.act B ⟨unP n (fun _=>⟨B n,0,none⟩) s.tm,s.bx.take n⟩=s.act B:=by unfold St.act;rw[yF (B:=B) n _ rfl]
 cases c with
 | code c=>simp only at this ⊢;rw[ha]at this;exact this
 | ops l r=>simp only at this ⊢;rw[ha]at this;exact this
 | ex e=>simp only at this ⊢;rw[ha]at this;exact this
 | pl=>cases hc
 | hd=>cases hc
end
end Go.Proofs.Own
namespace Go.Proofs.YtgeihgombjbkbaaGreat
open Go.RowKit Go.Maps Go.Proofs.Own
theorem aLU {w0 w:World}{R:World->Prop}{L:Bx}{b rb:Nat}{v:Value}{l:List Nat}{bad:Bool}(e:TypeId)(sz:Nat)(F:Fo [] (fun _=>False) w0 R w (L ++ [(b,[v,.bool bad])]))(hB:Bytes w v l)(hv:l = []\/v.ownBlock=some rb)(hrb:rb<w0.heap.size):FrD b rb w0 (fun _=>True) (Rz b rb (l,bad)) e sz (.slice none 0 0) [] w L:=by
 obtain⟨L',e1,f⟩:=F;rw[List.nil_append]at e1;subst e1;have hw:=f.bel.size;have hi:(L ++ [(b,[v,Value.bool bad])])[L.length]? = some (b,[v,.bool bad]):=by simp
 have hbx:=f.box _ _ hi;have hb:=(f.rng _ (List.mem_of_getElem? hi)).1;have hne:rb≠b:=fun h=>by simp only at hb;omega
 have hr:∀k,k ∈ L.map (·.1)->w0.heap.size<=k/\k<w.heap.size/\k≠b:=fun k hk=>by
  obtain⟨p,hp,rfl⟩:=List.mem_map.1 hk;have h1:=f.rng p (List.mem_append_left _ hp);obtain⟨j,hj⟩:=List.getElem?_of_mem hp;have hjl:=(List.getElem?_eq_some_iff.1 hj).1;refine⟨h1.1,h1.2,fun h=>?_⟩;have:=f.inj j L.length p _ (by rw[List.getElem?_append_left hjl];exact hj) hi h;omega
 have hrd:aE w b rb l bad:=⟨⟨v,(hbx.2 0 v rfl).1,hB,hv⟩,hne,(hbx.2 1 _ rfl).1,(hbx.2 0 v rfl).2,(hbx.2 1 _ rfl).2⟩;refine⟨fun i p hp=>f.box i p (by rw[List.getElem?_append_left (List.getElem?_eq_some_iff.1 hp).1];exact hp),fun i j p q hp hq=>f.inj i j p q (by rw[List.getElem?_append_left (List.getElem?_eq_some_iff.1 hp).1];exact hp) (by rw[List.getElem?_append_left (List.getElem?_eq_some_iff.1 hq).1];exact hq),fun k hk=>?_,⟨hbx.1,by omega⟩,Kept.aY f.bel (fun k h1 h2=>by omega),dC.nil _ _ _ _,nofun,fun _ _=>trivial,dT (t:=(l,bad)) hrd _ (fun h=>?_) (fun h=>?_)⟩
 ·have:=hr k hk;exact⟨this.1,this.2.2,by omega⟩
 ·rcases h with h|h
  ·cases h
  ·exact(hr _ h).2.2 rfl
 ·rcases h with h|h
  ·cases h
  ·have:=hr _ h;omega
def iB:dR:=⟨0,0,0,0,0,0,bJ,bK⟩
def dS (k cl rq:Int)(s:RS):dR × RS :=
 if k=2 then (⟨k,cl,rq,(aB ALL s.1:Nat),0,0,(dG (nS ALL s)).1,bK⟩,(dG (nS ALL s)).2.1)
 else if k=3 then (⟨k,cl,rq,(aB ALL s.1:Nat),0,0,bJ,(dB (nS ALL s)).1⟩,(dB (nS ALL s)).2.1)
 else if k=4 then (⟨k,cl,rq,(aB ALL s.1:Nat),(aB 15 (nS ALL s).1:Nat),0,bJ,bK⟩,nS 15 (nS ALL s))
 else if k=9 then (⟨k,cl,rq,0,0,gN s.1,bJ,bK⟩,iS s)
 else if k=1 then (⟨k,cl,rq,0,0,0,bJ,bK⟩,s)
 else (⟨k,cl,rq,(aB ALL s.1:Nat),0,0,bJ,bK⟩,nS ALL s)
def aAG (l:List Nat):RS:=nS ALL (nS 8 (nS 12 (l,false)))
def bW (l:List Nat):dR × RS:=dS (aB 12 l:Nat) (aB 8 (nS 12 (l,false)).1:Nat) (aB ALL (nS 8 (nS 12 (l,false))).1:Nat) (aAG l)
def lG (l:List Nat):dR × Int:=if 2048<l.length then (iB,21) else if hP (bW l).2.1 (bW l).2.2=0/\cR (bW l).1=true then ((bW l).1,0) else (iB,20)
def bC (l:List Nat)(w:World):Ending->World->Prop:=fun e w'=>∃A,e = .returned (.tuple #[.agg (iL (lG l).1 A).toArray,.int .i64 (lG l).2])/\Sf (fun k=>k<w.heap.size) w' (fun u=>aS u (lG l).1 A)/\Below w.heap.size w w'
def bV:gS:=⟨none,0,0,none,0,0,none,0,0⟩
theorem aS.zero (w:World):aS w iB bV:=⟨cD.zero w,bZ.zero w,by decide,by decide⟩
theorem bC.bad {l:List Nat}{w w':World}(h:lG l=(iB,20))(hb:Below w.heap.size w w'):bC l w (.returned (.tuple #[.agg (iL iB bV).toArray,.int .i64 20])) w':=by
 unfold bC;rw[h];exact⟨bV,rfl,fun u _=>aS.zero u,hb⟩
end Go.Proofs.YtgeihgombjbkbaaGreat
namespace Go.Proofs.YtgeihgombjbkbaaGreat
open Go.RowKit Go.Maps Go.Proofs.Own
theorem bE {l:List Nat}{r:dR × RS}(h:bW l=r)(hl:¬2048<l.length)(hb:¬(hP r.2.1 r.2.2=0/\cR r.1=true)):lG l=(iB,20):=by subst h;rw[lG,if_neg hl,if_neg hb]
theorem eH {l:List Nat}{r:dR × RS}(h:bW l=r)(hl:¬2048<l.length)(hb:hP r.2.1 r.2.2=0/\cR r.1=true):lG l=(r.1,0):=by subst h;rw[lG,if_neg hl,if_pos hb]
theorem gT:(-9223372036854775808:Int)<=0/\(0:Int)<9223372036854775808:=⟨by decide,by decide⟩
theorem cV (l:List Nat)(b:Bool):hP l b=0\/hP l b=20:=by
 unfold hP;split
 ·exact .inr rfl
 ·exact .inl rfl
theorem aLZ {k:Int}(h:idB k=true):1<k/\k≠9:=by
 unfold idB dL at h;simp only[Bool.and_eq_true,decide_eq_true_eq,Bool.not_eq_true',beq_eq_false_iff_ne]at h;omega
theorem aLY {k:Int}(h0:0<=k)(h1:k<=12)(h:¬idB k=true):k=0\/k=1\/k=9:=by
 unfold idB dL at h;simp only[Bool.and_eq_true,decide_eq_true_eq,Bool.not_eq_true',beq_eq_false_iff_ne]at h;omega
theorem aJs {t:RS}(h:(dG t).2.2=false):(dG t).2.1=([],true):=by
 unfold dG at h ⊢;split at h
 ·rw[if_pos (by assumption)]
 ·cases h
theorem aJy {t:RS}(h:(dB t).2.2=false):(dB t).2.1=([],true):=by
 unfold dB at h ⊢;split at h
 ·rw[if_pos (by assumption)]
 ·cases h
end Go.Proofs.YtgeihgombjbkbaaGreat
namespace Go.Proofs.YtgeihgombjbkbaaGreat
open Go.RowKit Go.Maps Go.Proofs.Own

structure cS where
 k:Int
 who:Int
 n:Int
 to:Int
 id:Int
 com:dR
 ts:List bP
deriving DecidableEq
structure dN where
 com:gS
 ta:Option Addr
 tn:Nat
 tc:Nat
def trV (s:bP):List Value:=[.int .u16 s.f,.int .u32 s.t]
def eZ (a:cS)(A:dN):List Value:=[.int .i64 a.k,.int .i64 a.who,.int .i64 a.n,.int .i64 a.to,.int .u64 a.id]++iL a.com A.com ++ [.slice A.ta A.tn A.tc]
structure cL (w:World)(a:cS)(A:dN):Prop where
 com:aS w a.com A.com
 ts:aU w 2 (.slice A.ta A.tn A.tc) (a.ts.map trV)
 n:a.ts.length=A.tn
 sm:a.ts.length<=2147483648
theorem cL.below {w w':World}{a:cS}{A:dN}(h:cL w a A)(hb:Below w.heap.size w w'):cL w' a A:=⟨h.com.below hb,h.ts.below hb,h.n,h.sm⟩
def nY (k who n to id:IE)(c:dR)(C:gS)(ts:AV):List AV:=[.i .i64 k,.i .i64 who,.i .i64 n,.i .i64 to,.i .u64 id]++jJ (.x fun _=>c.k) c C ++ [ts]
def dP (t:RS):RS:=(kD 2048 t.1,t.2 || kC 2048 t.1)
def rQ (t:RS):dR × RS:=if dY 2048 t.1 = [] then (iB,dP t) else ((lG (dY 2048 t.1)).1,if (lG (dY 2048 t.1)).2=0 then dP t else ([],true))
def lP (t:RS):List bP × RS:=prS 65535 4294967295 (aB 16 t.1) (nS 16 t)
def rP (t:RS):RS:=nS ALL (iS (nS 7 (nS 8 (nS 20 t))))
def jH (t:RS):cS × RS:=(⟨(aB 20 t.1:Nat),(aB 8 (nS 20 t).1:Nat),gN (nS 7 (nS 8 (nS 20 t))).1,(aB 7 (nS 8 (nS 20 t)).1:Nat),(aB ALL (iS (nS 7 (nS 8 (nS 20 t)))).1:Nat),(rQ (rP t)).1,(lP (rQ (rP t)).2).1⟩,(lP (rQ (rP t)).2).2)
def xA (b rb:Nat)(t:RS)(w:World):Ending->World->Prop:=fun e w'=>∃A,e = .returned (.agg (eZ (jH t).1 A).toArray)/\Sf (fun k=>k<w.heap.size) w' (fun u=>cL u (jH t).1 A)/\aE w' b rb (jH t).2.1 (jH t).2.2/\Kept w w' (fun k=>k=b)
theorem yD {m:Nat}{l:List Nat}:∀c ∈ dY m l,c ∈ l:=by
 unfold dY eC;intro c hc;split at hc
 ·have hc:=List.mem_of_mem_take hc;split at hc
  ·exact List.mem_of_mem_drop hc
  ·cases hc
 ·cases hc
theorem yC (m:Nat)(l:List Nat):(dY m l).length<=m:=by
 unfold dY;split
 ·rw[List.length_take];have:=aD m l;omega
 ·exact Nat.zero_le _
theorem aIQ {w:World}{b rb:Nat}{l:List Nat}{bad:Bool}(h:aE w b rb l bad):∀c ∈ l,c<256:=let ⟨_,_,hb,_⟩:=h.ex;hb.lt
theorem jS {m:Nat}{t:RS}{c:Nat}(h:c ∈ (nS m t).1):c ∈ t.1:=by
 unfold nS eC at h;simp only at h;split at h
 ·exact List.mem_of_mem_drop h
 ·cases h
theorem aIe {t:RS}{c:Nat}(h:c ∈ (iS t).1):c ∈ t.1:=by
 unfold iS zD eC at h;simp only at h;split at h
 ·rw[iH]at h;exact List.mem_of_mem_drop h
 ·cases h
theorem aAo {n:Nat}(h:n<=65535):IntKind.u16.wrap (n:Int)=n:=by
 simp only[IntKind.wrap,IntKind.bits,IntKind.signed];simp;omega
theorem aAp {n:Nat}(h:n<=4294967295):IntKind.u32.wrap (n:Int)=n:=by
 simp only[IntKind.wrap,IntKind.bits,IntKind.signed];simp;omega
theorem mU:cE Tryz.prog 74 112 2 8:=by
 obtain⟨i0,hi,hz0,hz1,hz2⟩:=info_parts (show (Tryz.prog.info? 112).map (fun i=>(i.zero,i.size,i.bytes))=some (some (.agg #[.int .u16 0,.int .u32 0]),2,8) by kernel_rfl);exact⟨Tryz.underlying74,⟨i0,_,hi,hz0,hz1,hz2,rfl⟩,by decide,by decide⟩
theorem iY:cE Tryz.prog 84 121 2 8:=by
 obtain⟨i0,hi,hz0,hz1,hz2⟩:=info_parts (show (Tryz.prog.info? 121).map (fun i=>(i.zero,i.size,i.bytes))=some (some (.agg #[.int .u16 0,.int .u32 0]),2,8) by kernel_rfl);exact⟨Tryz.underlying84,⟨i0,_,hi,hz0,hz1,hz2,rfl⟩,by decide,by decide⟩
theorem FrD.less {b rb:Nat}{w0 w:World}{R Z:World->Prop}{e:TypeId}{sz:Nat}{v:Value}{rs:List (List Value)}{L M:Bx}(F:FrD b rb w0 R Z e sz v rs w (L++M)):FrD b rb w0 R Z e sz v rs w L:=by
 have hm:∀k,k ∈ L.map (·.1)->k ∈ (L++M).map (·.1):=fun k hk=>by rw[List.map_append];exact List.mem_append_left _ hk
 exact⟨fun i p hp=>F.box i p (by rw[List.getElem?_append_left (List.getElem?_eq_some_iff.1 hp).1];exact hp),fun i j p q hp hq=>F.inj i j p q (by rw[List.getElem?_append_left (List.getElem?_eq_some_iff.1 hp).1];exact hp) (by rw[List.getElem?_append_left (List.getElem?_eq_some_iff.1 hq).1];exact hq),
  fun k hk=>F.rng k (hm k hk),F.lt,F.kept,F.own,fun k hk=>⟨(F.nown k hk).1,(F.nown k hk).2.1,fun h=>(F.nown k hk).2.2 (hm k h)⟩,
  F.s1.sub fun k _ h=>h.imp id (Or.imp id (Or.imp id (hm k))),F.s2.sub fun k _ h=>h.imp id (hm k)⟩
section
variable {b rb:Nat} {w0:World} {R:World->Prop} {e:TypeId} {sz:Nat} {v:Value} {rs:List (List Value)} {Q:Exit->Act->World->Prop} {k8:KB} {s:St} {k:List KF} {c:Cf} {dst:Option Tmp} {t:RS}
theorem bJG (h:Ok Tryz.prog Q (FrD b rb w0 R (Rz b rb (dP t)) e sz v rs) c (s.put dst (.st fun _=>eY (dY 2048 t.1))) k) :
  bO Tryz.prog Q (FrD b rb w0 R (Rz b rb t) e sz v rs) k8 (.call 73 [.pa (fun _=>⟨b,0,none⟩),.i .i64 (.l 2048)] dst c s k):=fun B w F=>by
 refine(zS b 2048 t.1 t.2 w F.z (by decide)).mono ?_;rintro e w' ⟨rfl,h1,h2⟩;exact⟨_,_,rfl,fd.b,F.rd h2 (dT (t:=dP t) h1),h⟩
theorem bJH (h:Ok Tryz.prog Q (FrD b rb w0 R (Rz b rb (dP t)) e sz v rs) c (s.put dst (.st fun _=>eY (dY 2048 t.1))) k) :
  bO Tryz.prog Q (FrD b rb w0 R (Rz b rb t) e sz v rs) k8 (.call 79 [.pa (fun _=>⟨b,0,none⟩),.i .i64 (.l 2048)] dst c s k):=fun B w F=>by
 refine(aAb b 2048 t.1 t.2 w F.z (by decide)).mono ?_;rintro e w' ⟨rfl,h1,h2⟩;exact⟨_,_,rfl,fd.b,F.rd h2 (dT (t:=dP t) h1),h⟩
theorem aKH {Z:World->Prop}{l r:List Oper}{o:Oper}(T:List Nat)(x:Operand)(hT:∀c ∈ T,c<256)(hn:T.length<=2097152)(h0:T ≠ [])
  (h:∀(a:Option Addr) (c kb:Nat),(Value.slice a T.length c).ownBlock=some kb->Ok Tryz.prog Q (FrD b rb w0 (fun u=>(Bytes u (.slice a T.length c) T/\kb<u.heap.size)/\R u) Z e sz v rs) (.ops l r) (s.put o.dst (.sl (fun _=>a) (fun _=>T.length) (fun _=>c))) k)
  (ho:o.op = .convert 9 22 x:=by rfl) (hx:s.ev x = .st (fun _=>eY T):=by rfl) (hw:wantA l s o=some true:=by cbv):bO Tryz.prog Q (FrD b rb w0 R Z e sz v rs) k8 (.at (.ops l (o::r)) s k) :=
 bLJ (fun B w F K Q' hk=>by
  obtain⟨v1,w',hrun,h1,h2,h3⟩:=qE (P:=Tryz.prog) w 9 22 5 (eY T) Tryz.underlying9 Tryz.underlying22 Tryz.underlying5 (by rw[aAg];exact hn);rw[jT hT]at h1;obtain⟨a,c,rfl,hc⟩:=h1.shape;have hev:(s.act B).eval x = .string (eY T):=by rw[St.aC,hx];rfl
  unfold Oper.wp;simp only[execOp,ho,hev,hrun,Sem.run_bind,Result.andThen];have hlt:w.heap.size<w'.heap.size:=by
   obtain⟨a1,c1,e1,h4⟩:=h1.rd;injection e1 with e1 _ _
   subst e1;obtain⟨b1,o1,rfl,h5⟩:=h4 0 (by rw[aF];exact List.length_pos_iff.2 h0);cases h3;exact World.block_lt_of_cell? _ _ h5
  refine hk _ w' _ fd.b (F.tM h2 (R':=fun u=>Bytes u (.slice a T.length c) T/\w.heap.size<u.heap.size) fun u ku=>⟨h1.kept ku fun k hk2 hk3=>?_,Nat.lt_of_lt_of_le hlt ku.size⟩) (h a c w.heap.size h3);rw[h3]at hk2;cases hk2;exact Nat.lt_irrefl _ hk3) hw
end
theorem sR {l:List Nat}{a:Option Addr}{c rb:Nat}{w:World}(hB:Bytes w (.slice a l.length c) l)(hv:l = []\/(Value.slice a l.length c).ownBlock=some rb)(hr:rb<w.heap.size):Calls Tryz.prog 74 #[.slice a l.length c] w (bC l w):=by
 have F0:Fo [] (fun _=>False) w (fun v=>Bytes v (.slice a l.length c) l) w []:=Fo.start nofun fun _ bv=>hB.below bv;clear hB;refine enter (fun _=>0) [.sl (fun _=>a) (fun _=>l.length) (fun _=>c)] [] Tryz.func74 rfl rfl F0 87 rfl ?_;refine ga env (Fo.frm _ _ _ _ 0 rfl) aA ?_;refine⟨fun q=>?_,fun q=>?_⟩
 ·have hl:2048<l.length:=by have q:decide ((l.length:Int) > 2048)=true:=q;simp only[decide_eq_true_eq]at q;omega
  refine ga env (Fo.frm _ _ _ _ 0 rfl) aA ?_;refine fa env (Fo.frm _ _ _ _ 0 rfl) ?_;intro B v F;unfold bC;rw[lG,if_pos hl];exact⟨bV,rfl,fun u _=>aS.zero u,F.bel⟩
 have hl:¬2048<l.length:=by have q:decide ((l.length:Int) > 2048)=false:=q;simp only[decide_eq_false_iff_not]at q;omega
 clear q;refine ga env (Fo.frm _ _ _ _ 0 rfl) aA ?_;intro B w1 F;refine(rD (rb:=rb) _ l w1 F.now hv (by have:=F.bel.size;omega)).mono ?_;rintro e w2 ⟨rfl,hz,hb⟩;have hwb:w.heap.size<=w1.heap.size:=F.bel.size;refine⟨.pa (fun _=>⟨w1.heap.size,0,none⟩),_,rfl,fd.b,F.toD hb 324 2 (Nat.le_refl _) hz.lt hr (dT (t:=(l,false)) hz),?_⟩;clear F hz hb F0;generalize w1.heap.size=b at hwb ⊢;clear w1 w2;have hR:bW l=bW l:=rfl
 conv at hR=>rhs;unfold bW aAG
 refine ga env fd aA ?_;refine bH (.g [.i .u64 (.l 12),.i .u64 (.l 8),.i .u64 (.l 18446744073709551615)]) (fun B v F=>xB bF rfl Tryz.underlying247 rfl rfl rfl) ?_;refine ga env fd aA ?_;refine aJk 4 fun J0 hJ0=>?_;refine ga env fd aA ?_;refine bH (.i .u64 (.l 12)) (fun B v F=>lV bF (i:=0) rfl Tryz.underlying247 rfl rfl (by rw[St.aC];rfl) (by decide) rfl) ?_;refine ga env fd aA ?_;refine dF 12 _ rfl (by decide) ?_;refine ga env fd aA ?_;refine bH (.p 1 0) (fun B v F=>kG (b:=B 1) (off:=0) (i:=0) (ei:=⟨1,false,[.int .u64 0],[],[],.int .u64,[]⟩) bF rfl Tryz.underlying247 rfl (by rw[St.aC];rfl) (by rw[St.aC];rfl) (by decide) rfl) ?_;refine ga env fd aA ?_;refine eI hJ0 fun J1 hJ1=>?_;refine ga env fd aA ?_;refine bH (.i .u64 (.l 8)) (fun B v F=>lV bF (i:=1) rfl Tryz.underlying247 rfl rfl (by rw[St.aC];rfl) (by decide) rfl) ?_;refine ga env fd aA ?_;refine dF 8 _ rfl (by decide) ?_;refine ga env fd aA ?_;refine bH (.p 1 1) (fun B v F=>kG (b:=B 1) (off:=0) (i:=1) (ei:=⟨1,false,[.int .u64 0],[],[],.int .u64,[]⟩) bF rfl Tryz.underlying247 rfl (by rw[St.aC];rfl) (by rw[St.aC];rfl) (by decide) rfl) ?_;refine ga env fd aA ?_;refine eI hJ1 fun J2 hJ2=>?_;refine ga env fd aA ?_;refine bH (.i .u64 (.l 18446744073709551615)) (fun B v F=>lV bF (i:=2) rfl Tryz.underlying247 rfl rfl (by rw[St.aC];rfl) (by decide) rfl) ?_;refine ga env fd aA ?_;refine dF ALL _ rfl (by decide) ?_;refine ga env fd aA ?_;refine bH (.p 1 2) (fun B v F=>kG (b:=B 1) (off:=0) (i:=2) (ei:=⟨1,false,[.int .u64 0],[],[],.int .u64,[]⟩) bF rfl Tryz.underlying247 rfl (by rw[St.aC];rfl) (by rw[St.aC];rfl) (by decide) rfl) ?_;refine ga env fd aA ?_;refine eI hJ2 fun J3 hJ3=>?_;clear hJ0 hJ1 hJ2 hJ3;have hK9:((aB 12 l:Nat):Int)<=12:=by have:=aD 12 l;omega
 have hK0:(0:Int)<=((aB 12 l:Nat):Int):=by omega
 refine ga env fd aA ?_;refine bH (.p 1 0) (fun B v F=>kG (b:=B 1) (off:=0) (i:=0) (ei:=⟨1,false,[.int .u64 0],[],[],.int .u64,[]⟩) bF rfl Tryz.underlying247 rfl (by rw[St.aC];rfl) rfl (by decide) rfl) ?_;refine ga env fd aA ?_;refine fW 30 (.i .i64 (.cv .i64 (.x fun _=>(aB 12 l:Nat)))) (.i .i64 (.x fun _=>(aB 12 l:Nat))) (fun B=>congrArg (Value.int .i64) (cT (aD 12 _) (by decide))) ?_;refine ga env fd aA ?_;refine bH (.p 1 1) (fun B v F=>kG (b:=B 1) (off:=0) (i:=1) (ei:=⟨1,false,[.int .u64 0],[],[],.int .u64,[]⟩) bF rfl Tryz.underlying247 rfl (by rw[St.aC];rfl) rfl (by decide) rfl) ?_;refine ga env fd aA ?_;refine bH (.p 1 2) (fun B v F=>kG (b:=B 1) (off:=0) (i:=2) (ei:=⟨1,false,[.int .u64 0],[],[],.int .u64,[]⟩) bF rfl Tryz.underlying247 rfl (by rw[St.aC];rfl) rfl (by decide) rfl) ?_;refine ga env fd aA ?_;generalize aB 12 l=K at hK9 hK0 hR ⊢;generalize aB 8 (nS 12 (l,false)).1=cl at hR ⊢;generalize aB ALL (nS 8 (nS 12 (l,false))).1=rq at hR ⊢;generalize nS ALL (nS 8 (nS 12 (l,false)))=s3 at hR ⊢;intro B w3 F;refine(xT (K:Nat) w3).mono ?_;rintro e w4 ⟨rfl,hb⟩;refine⟨.t [.g [.b (.x fun _=>idB K),.b (.x fun _=>(K:Int)==2),.b (.x fun _=>(K:Int)==3),.b (.x fun _=>(K:Int)==4),.b (.x fun _=>(K:Int)==9)],.b (.x fun _=>dL K)],_,rfl,fd.b,F.call hb,?_⟩;clear F hb w3 w4;refine ga env fd aA ?_;refine⟨fun q=>?_,fun q=>?_⟩
 ·have hid:idB K=true:=by simpa [BE.den] using q
  clear q;obtain⟨hk1,hk9⟩:=aLZ hid;refine ga env fd aA ?_;refine dF ALL _ rfl (by decide) ?_;refine ga env fd aA ?_;refine⟨fun q=>?_,fun q=>?_⟩
  ·have h2:(K:Int)=2:=by simpa [BE.den] using q
   clear q;refine ga env fd aA ?_;intro B w3 F;refine(sP F.z F.lt.2).mono ?_;rintro e w4 ⟨wa,wc,ca,cc,rfl,hs,hz,hk⟩;refine⟨.t [.g [.i .i64 (.x fun _=>(dG (nS ALL s3)).1.o),.sl (fun _=>wa) (fun _=>(dG (nS ALL s3)).1.w.length) (fun _=>wc),.sl (fun _=>ca) (fun _=>(dG (nS ALL s3)).1.c.length) (fun _=>cc)],.b (.x fun _=>(dG (nS ALL s3)).2.2)],_,rfl,fd.b,F.rdR hk (dT hz) hs,?_⟩;clear F hs hz hk w3 w4;have hr1:bW l=(⟨K,cl,rq,(aB ALL s3.1:Nat),0,0,(dG (nS ALL s3)).1,bK⟩,(dG (nS ALL s3)).2.1):=by rw[hR,dS,if_pos h2]
   generalize dG (nS ALL s3)=r at hr1 ⊢;generalize aB ALL s3.1=id at hr1 ⊢;refine ga env fd aA ?_;have hr0:bW l=(⟨K,cl,rq,id,0,0,r.1,bK⟩,r.2.1):=hr1;generalize hT:r.2.1=t9 at hr0 ⊢;clear hT;have HI:∀u,cD u r.1 wa r.1.w.length wc ca r.1.c.length cc/\True->aS u ⟨K,cl,rq,id,0,0,r.1,bK⟩ ⟨wa,r.1.w.length,wc,ca,r.1.c.length,cc,none,0,0⟩:=fun u h=>⟨h.1,bZ.zero u,gT.1,gT.2⟩;intro B w5 F;refine(eU b _ _ w5 F.z).mono ?_;rintro e w6 ⟨rfl,rfl⟩;rcases cV t9.1 t9.2 with hE|hE
   case inr =>
    refine⟨.i .i64 (.l 20),_,by rw[hE];rfl,fd.b,F,?_⟩;clear F;refine ga env fd aA ?_;refine fa env fd ?_;intro B v F;exact bC.bad (bE hr0 hl fun h=>by have h:=h.1;simp only at h;omega) (F.kept.below (Nat.le_refl _) fun k hk=>hk ▸ hwb)
   refine⟨.i .i64 (.l 0),_,by rw[hE];rfl,fd.b,F,?_⟩;clear F;refine ga env fd aA ?_;intro B v F;refine(cM ⟨K,cl,rq,id,0,0,r.1,bK⟩ ⟨wa,r.1.w.length,wc,ca,r.1.c.length,cc,none,0,0⟩ v (HI _ F.now)).mono ?_;rintro e w7 ⟨rfl,hb⟩;cases hok:cR ⟨K,cl,rq,id,0,0,r.1,bK⟩ with
   | false =>
    refine⟨.b (.l false),_,rfl,fd.b,F.call hb,?_⟩;clear F hb;refine ga env fd aA ?_;refine fa env fd ?_;intro B v F;exact bC.bad (bE hr0 hl fun h=>by have h:=h.2;simp only at h;rw[hok]at h;cases h) (F.kept.below (Nat.le_refl _) fun k hk=>hk ▸ hwb)
   | true =>
    refine⟨.b (.l true),_,rfl,fd.b,F.call hb,?_⟩;clear F hb;refine ga env fd aA ?_;refine fa env fd ?_;intro B v F;unfold bC;rw[eH hr0 hl ⟨hE,hok⟩];exact⟨⟨wa,r.1.w.length,wc,ca,r.1.c.length,cc,none,0,0⟩,rfl,F.old.imp HI,F.kept.below (Nat.le_refl _) fun k hk=>hk ▸ hwb⟩
  have h2:¬(K:Int)=2:=by simpa [BE.den] using q
  clear q;refine ga env fd aA ?_;refine⟨fun q=>?_,fun q=>?_⟩
  ·have h3:(K:Int)=3:=by simpa [BE.den] using q
   clear q;refine ga env fd aA ?_;intro B w3 F;refine(sS F.z F.lt.2).mono ?_;rintro e w4 ⟨la,lc,rfl,hs,hz,hk⟩;refine⟨.t [.g [.i .i64 (.x fun _=>(dB (nS ALL s3)).1.c),.sl (fun _=>la) (fun _=>(dB (nS ALL s3)).1.l.length) (fun _=>lc),.i .i64 (.x fun _=>(dB (nS ALL s3)).1.r),.i .i64 (.x fun _=>(dB (nS ALL s3)).1.b)],.b (.x fun _=>(dB (nS ALL s3)).2.2)],_,rfl,fd.b,F.rdR hk (dT hz) hs,?_⟩;clear F hs hz hk w3 w4;have hr1:bW l=(⟨K,cl,rq,(aB ALL s3.1:Nat),0,0,bJ,(dB (nS ALL s3)).1⟩,(dB (nS ALL s3)).2.1):=by rw[hR,dS,if_neg h2,if_pos h3]
   generalize dB (nS ALL s3)=r at hr1 ⊢;generalize aB ALL s3.1=id at hr1 ⊢;refine ga env fd aA ?_;have hr0:bW l=(⟨K,cl,rq,id,0,0,bJ,r.1⟩,r.2.1):=hr1;generalize hT:r.2.1=t9 at hr0 ⊢;clear hT;have HI:∀u,bZ u r.1 la r.1.l.length lc/\True->aS u ⟨K,cl,rq,id,0,0,bJ,r.1⟩ ⟨none,0,0,none,0,0,la,r.1.l.length,lc⟩:=fun u h=>⟨cD.zero u,h.1,gT.1,gT.2⟩;intro B w5 F;refine(eU b _ _ w5 F.z).mono ?_;rintro e w6 ⟨rfl,rfl⟩;rcases cV t9.1 t9.2 with hE|hE
   case inr =>
    refine⟨.i .i64 (.l 20),_,by rw[hE];rfl,fd.b,F,?_⟩;clear F;refine ga env fd aA ?_;refine fa env fd ?_;intro B v F;exact bC.bad (bE hr0 hl fun h=>by have h:=h.1;simp only at h;omega) (F.kept.below (Nat.le_refl _) fun k hk=>hk ▸ hwb)
   refine⟨.i .i64 (.l 0),_,by rw[hE];rfl,fd.b,F,?_⟩;clear F;refine ga env fd aA ?_;intro B v F;refine(cM ⟨K,cl,rq,id,0,0,bJ,r.1⟩ ⟨none,0,0,none,0,0,la,r.1.l.length,lc⟩ v (HI _ F.now)).mono ?_;rintro e w7 ⟨rfl,hb⟩;cases hok:cR ⟨K,cl,rq,id,0,0,bJ,r.1⟩ with
   | false =>
    refine⟨.b (.l false),_,rfl,fd.b,F.call hb,?_⟩;clear F hb;refine ga env fd aA ?_;refine fa env fd ?_;intro B v F;exact bC.bad (bE hr0 hl fun h=>by have h:=h.2;simp only at h;rw[hok]at h;cases h) (F.kept.below (Nat.le_refl _) fun k hk=>hk ▸ hwb)
   | true =>
    refine⟨.b (.l true),_,rfl,fd.b,F.call hb,?_⟩;clear F hb;refine ga env fd aA ?_;refine fa env fd ?_;intro B v F;unfold bC;rw[eH hr0 hl ⟨hE,hok⟩];exact⟨⟨none,0,0,none,0,0,la,r.1.l.length,lc⟩,rfl,F.old.imp HI,F.kept.below (Nat.le_refl _) fun k hk=>hk ▸ hwb⟩
  have h3:¬(K:Int)=3:=by simpa [BE.den] using q
  clear q;refine ga env fd aA ?_;refine⟨fun q=>?_,fun q=>?_⟩
  ·have h4:(K:Int)=4:=by simpa [BE.den] using q
   clear q;refine ga env fd aA ?_;refine dF 15 _ rfl (by decide) ?_;have hr1:bW l=(⟨K,cl,rq,(aB ALL s3.1:Nat),(aB 15 (nS ALL s3).1:Nat),0,bJ,bK⟩,nS 15 (nS ALL s3)):=by rw[hR,dS,if_neg h2,if_neg h3,if_pos h4]
   have hct:IntKind.i64.wrap ((aB 15 (nS ALL s3).1:Nat):Int)=(aB 15 (nS ALL s3).1:Nat):=cT (aD 15 _) (by decide);rw[<- hct]at hr1;generalize aB 15 (nS ALL s3).1=ct at hr1 ⊢;generalize aB ALL s3.1=id at hr1 ⊢;generalize nS 15 (nS ALL s3)=t8 at hr1 ⊢;refine ga env fd aA ?_;have hr0:bW l=(⟨K,cl,rq,id,IntKind.i64.wrap ct,0,bJ,bK⟩,t8):=hr1;generalize hT:t8=t9 at hr0 ⊢;clear hT;have HI:∀u,True->aS u ⟨K,cl,rq,id,IntKind.i64.wrap ct,0,bJ,bK⟩ bV:=fun u _=>⟨cD.zero u,bZ.zero u,gT.1,gT.2⟩;intro B w5 F;refine(eU b _ _ w5 F.z).mono ?_;rintro e w6 ⟨rfl,rfl⟩;rcases cV t9.1 t9.2 with hE|hE
   case inr =>
    refine⟨.i .i64 (.l 20),_,by rw[hE];rfl,fd.b,F,?_⟩;clear F;refine ga env fd aA ?_;refine fa env fd ?_;intro B v F;exact bC.bad (bE hr0 hl fun h=>by have h:=h.1;simp only at h;omega) (F.kept.below (Nat.le_refl _) fun k hk=>hk ▸ hwb)
   refine⟨.i .i64 (.l 0),_,by rw[hE];rfl,fd.b,F,?_⟩;clear F;refine ga env fd aA ?_;intro B v F;refine(cM ⟨K,cl,rq,id,IntKind.i64.wrap ct,0,bJ,bK⟩ bV v (HI _ F.now)).mono ?_;rintro e w7 ⟨rfl,hb⟩;cases hok:cR ⟨K,cl,rq,id,IntKind.i64.wrap ct,0,bJ,bK⟩ with
   | false =>
    refine⟨.b (.l false),_,rfl,fd.b,F.call hb,?_⟩;clear F hb;refine ga env fd aA ?_;refine fa env fd ?_;intro B v F;exact bC.bad (bE hr0 hl fun h=>by have h:=h.2;simp only at h;rw[hok]at h;cases h) (F.kept.below (Nat.le_refl _) fun k hk=>hk ▸ hwb)
   | true =>
    refine⟨.b (.l true),_,rfl,fd.b,F.call hb,?_⟩;clear F hb;refine ga env fd aA ?_;refine fa env fd ?_;intro B v F;unfold bC;rw[eH hr0 hl ⟨hE,hok⟩];exact⟨bV,rfl,F.old.imp HI,F.kept.below (Nat.le_refl _) fun k hk=>hk ▸ hwb⟩
  have h4:¬(K:Int)=4:=by simpa [BE.den] using q
  clear q;refine ga env fd aA ?_;refine⟨fun q=>absurd (by simpa [BE.den] using q) hk9,fun q=>?_⟩;clear q;have hr1:bW l=(⟨K,cl,rq,(aB ALL s3.1:Nat),0,0,bJ,bK⟩,nS ALL s3):=by rw[hR,dS,if_neg h2,if_neg h3,if_neg h4,if_neg hk9,if_neg (by omega:¬(K:Int)=1)]
  generalize aB ALL s3.1=id at hr1 ⊢;generalize nS ALL s3=t8 at hr1 ⊢;refine ga env fd aA ?_;have hr0:bW l=(⟨K,cl,rq,id,0,0,bJ,bK⟩,t8):=hr1;generalize hT:t8=t9 at hr0 ⊢;clear hT;have HI:∀u,True->aS u ⟨K,cl,rq,id,0,0,bJ,bK⟩ bV:=fun u _=>⟨cD.zero u,bZ.zero u,gT.1,gT.2⟩;intro B w5 F;refine(eU b _ _ w5 F.z).mono ?_;rintro e w6 ⟨rfl,rfl⟩;rcases cV t9.1 t9.2 with hE|hE
  case inr =>
   refine⟨.i .i64 (.l 20),_,by rw[hE];rfl,fd.b,F,?_⟩;clear F;refine ga env fd aA ?_;refine fa env fd ?_;intro B v F;exact bC.bad (bE hr0 hl fun h=>by have h:=h.1;simp only at h;omega) (F.kept.below (Nat.le_refl _) fun k hk=>hk ▸ hwb)
  refine⟨.i .i64 (.l 0),_,by rw[hE];rfl,fd.b,F,?_⟩;clear F;refine ga env fd aA ?_;intro B v F;refine(cM ⟨K,cl,rq,id,0,0,bJ,bK⟩ bV v (HI _ F.now)).mono ?_;rintro e w7 ⟨rfl,hb⟩;cases hok:cR ⟨K,cl,rq,id,0,0,bJ,bK⟩ with
  | false =>
   refine⟨.b (.l false),_,rfl,fd.b,F.call hb,?_⟩;clear F hb;refine ga env fd aA ?_;refine fa env fd ?_;intro B v F;exact bC.bad (bE hr0 hl fun h=>by have h:=h.2;simp only at h;rw[hok]at h;cases h) (F.kept.below (Nat.le_refl _) fun k hk=>hk ▸ hwb)
  | true =>
   refine⟨.b (.l true),_,rfl,fd.b,F.call hb,?_⟩;clear F hb;refine ga env fd aA ?_;refine fa env fd ?_;intro B v F;unfold bC;rw[eH hr0 hl ⟨hE,hok⟩];exact⟨bV,rfl,F.old.imp HI,F.kept.below (Nat.le_refl _) fun k hk=>hk ▸ hwb⟩
 have hid:¬idB K=true:=by simpa [BE.den] using q
 clear q;have hk:=aLY hK0 hK9 hid;refine ga env fd aA ?_;refine⟨fun q=>absurd (show (K:Int)=2 by simpa [BE.den] using q) (by omega),fun q=>?_⟩;clear q;refine ga env fd aA ?_;refine⟨fun q=>absurd (show (K:Int)=3 by simpa [BE.den] using q) (by omega),fun q=>?_⟩;clear q;refine ga env fd aA ?_;refine⟨fun q=>absurd (show (K:Int)=4 by simpa [BE.den] using q) (by omega),fun q=>?_⟩;clear q;refine ga env fd aA ?_;refine⟨fun q=>?_,fun q=>?_⟩
 ·have h9:(K:Int)=9:=by simpa [BE.den] using q
  clear q;refine ga env fd aA ?_;refine xU ?_;have hr1:bW l=(⟨K,cl,rq,0,0,gN s3.1,bJ,bK⟩,iS s3):=by rw[hR,dS,if_neg (by omega),if_neg (by omega),if_neg (by omega),if_pos h9]
  have hi:=uF s3.1;generalize gN s3.1=at1 at hr1 hi ⊢;generalize iS s3=t8 at hr1 ⊢;refine ga env fd aA ?_;have hr0:bW l=(⟨K,cl,rq,0,0,at1,bJ,bK⟩,t8):=hr1;generalize hT:t8=t9 at hr0 ⊢;clear hT;have HI:∀u,True->aS u ⟨K,cl,rq,0,0,at1,bJ,bK⟩ bV:=fun u _=>⟨cD.zero u,bZ.zero u,hi.1,hi.2⟩;intro B w5 F;refine(eU b _ _ w5 F.z).mono ?_;rintro e w6 ⟨rfl,rfl⟩;rcases cV t9.1 t9.2 with hE|hE
  case inr =>
   refine⟨.i .i64 (.l 20),_,by rw[hE];rfl,fd.b,F,?_⟩;clear F;refine ga env fd aA ?_;refine fa env fd ?_;intro B v F;exact bC.bad (bE hr0 hl fun h=>by have h:=h.1;simp only at h;omega) (F.kept.below (Nat.le_refl _) fun k hk=>hk ▸ hwb)
  refine⟨.i .i64 (.l 0),_,by rw[hE];rfl,fd.b,F,?_⟩;clear F;refine ga env fd aA ?_;intro B v F;refine(cM ⟨K,cl,rq,0,0,at1,bJ,bK⟩ bV v (HI _ F.now)).mono ?_;rintro e w7 ⟨rfl,hb⟩;cases hok:cR ⟨K,cl,rq,0,0,at1,bJ,bK⟩ with
  | false =>
   refine⟨.b (.l false),_,rfl,fd.b,F.call hb,?_⟩;clear F hb;refine ga env fd aA ?_;refine fa env fd ?_;intro B v F;exact bC.bad (bE hr0 hl fun h=>by have h:=h.2;simp only at h;rw[hok]at h;cases h) (F.kept.below (Nat.le_refl _) fun k hk=>hk ▸ hwb)
  | true =>
   refine⟨.b (.l true),_,rfl,fd.b,F.call hb,?_⟩;clear F hb;refine ga env fd aA ?_;refine fa env fd ?_;intro B v F;unfold bC;rw[eH hr0 hl ⟨hE,hok⟩];exact⟨bV,rfl,F.old.imp HI,F.kept.below (Nat.le_refl _) fun k hk=>hk ▸ hwb⟩
 have h9:¬(K:Int)=9:=by simpa [BE.den] using q
 clear q;refine ga env fd aA ?_;by_cases h1:(K:Int)=1
 ·have hr1:bW l=(⟨K,cl,rq,0,0,0,bJ,bK⟩,s3):=by rw[hR,dS,if_neg (by omega),if_neg (by omega),if_neg (by omega),if_neg h9,if_pos h1]
  have hr0:bW l=(⟨K,cl,rq,0,0,0,bJ,bK⟩,s3):=hr1;generalize hT:s3=t9 at hr0 ⊢;have HI:∀u,True->aS u ⟨K,cl,rq,0,0,0,bJ,bK⟩ bV:=fun u _=>⟨cD.zero u,bZ.zero u,gT.1,gT.2⟩;intro B w5 F;refine(eU b _ _ w5 F.z).mono ?_;rintro e w6 ⟨rfl,rfl⟩;rcases cV t9.1 t9.2 with hE|hE
  case inr =>
   refine⟨.i .i64 (.l 20),_,by rw[hE];rfl,fd.b,F,?_⟩;clear F;refine ga env fd aA ?_;refine fa env fd ?_;intro B v F;exact bC.bad (bE hr0 hl fun h=>by have h:=h.1;simp only at h;omega) (F.kept.below (Nat.le_refl _) fun k hk=>hk ▸ hwb)
  refine⟨.i .i64 (.l 0),_,by rw[hE];rfl,fd.b,F,?_⟩;clear F;refine ga env fd aA ?_;intro B v F;refine(cM ⟨K,cl,rq,0,0,0,bJ,bK⟩ bV v (HI _ F.now)).mono ?_;rintro e w7 ⟨rfl,hb⟩;cases hok:cR ⟨K,cl,rq,0,0,0,bJ,bK⟩ with
  | false =>
   refine⟨.b (.l false),_,rfl,fd.b,F.call hb,?_⟩;clear F hb;refine ga env fd aA ?_;refine fa env fd ?_;intro B v F;exact bC.bad (bE hr0 hl fun h=>by have h:=h.2;simp only at h;rw[hok]at h;cases h) (F.kept.below (Nat.le_refl _) fun k hk=>hk ▸ hwb)
  | true =>
   refine⟨.b (.l true),_,rfl,fd.b,F.call hb,?_⟩;clear F hb;refine ga env fd aA ?_;refine fa env fd ?_;intro B v F;unfold bC;rw[eH hr0 hl ⟨hE,hok⟩];exact⟨bV,rfl,F.old.imp HI,F.kept.below (Nat.le_refl _) fun k hk=>hk ▸ hwb⟩
 have hr1:lG l=(iB,20):=bE (r:=(⟨K,cl,rq,(aB ALL s3.1:Nat),0,0,bJ,bK⟩,nS ALL s3)) (by rw[hR,dS,if_neg (by omega),if_neg (by omega),if_neg (by omega),if_neg h9,if_neg h1]) hl (fun h=>by
  have e:cR ⟨K,cl,rq,(aB ALL s3.1:Nat),0,0,bJ,bK⟩=false:=fM (by show dL K=false;unfold dL;rw[decide_eq_false (by omega:¬1<=(K:Int))];rfl);rw[e]at h;cases h.2)
 intro B w5 F;refine(eU b _ _ w5 F.z).mono ?_;rintro e w6 ⟨rfl,rfl⟩;rcases cV s3.1 s3.2 with hE|hE
 case inr =>
  refine⟨.i .i64 (.l 20),_,by rw[hE];rfl,fd.b,F,?_⟩;clear F;refine ga env fd aA ?_;refine fa env fd ?_;intro B v F;exact bC.bad hr1 (F.kept.below (Nat.le_refl _) fun k hk=>hk ▸ hwb)
 refine⟨.i .i64 (.l 0),_,by rw[hE];rfl,fd.b,F,?_⟩;clear F;refine ga env fd aA ?_;intro B v F;refine(cM ⟨K,cl,rq,0,0,0,bJ,bK⟩ bV v ⟨cD.zero v,bZ.zero v,gT.1,gT.2⟩).mono ?_;rintro e w7 ⟨rfl,hb⟩;refine⟨.b (.l false),_,by rw[fM (by show dL K=false;unfold dL;rw[decide_eq_false (by omega:¬1<=(K:Int))];rfl)];rfl,fd.b,F.call hb,?_⟩;clear F hb;refine ga env fd aA ?_;refine fa env fd ?_;intro B v F;exact bC.bad hr1 (F.kept.below (Nat.le_refl _) fun k hk=>hk ▸ hwb)
