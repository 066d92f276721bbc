/- For scbytes_law_holds. -/
import Derived.Test.YtgeihgombjbkbaaGreatSyb8
import Derived.Test.YtgeihgombjbkbaaGreatSyb54
import Derived.Test.YtgeihgombjbkbaaGreatSyb36
set_option maxHeartbeats 16000000
set_option maxRecDepth 100000
namespace Go.Proofs.YtgeihgombjbkbaaGreat
open Go.ChangeShapes Go.WideShapes Go.ChangeAt Go.RowKit Go.Deep Go.Proofs.Own

theorem own:ownKnob Tryz.prog.godebug=none:=by kernel_rfl
section
variable {H:Type} {enc:TypeId × Value->H} {W:World}
end

section
variable {H:Type} {enc:TypeId × Value->H} {W:World}
theorem kI {α:Type}{val:α->List Value}{Ok:α->Prop}{t e:TypeId}{sz fuel:Nat}{v:Value}{x:DataW H × List MemPlace}(ht:Tryz.prog.underlying t=some (.slice e))(hC:Tryz.prog.cellsOf e=sz)(hz:0<sz)
  (hel:∀n cs y,DataW.trod enc Tryz.prog W 0 (fun _=>true) true n e cs=some y -> ∃r:α,cs=val r/\Ok r)
  (hf:DataW.trod enc Tryz.prog W 0 (fun _=>true) true fuel t [v]=some x):∃rs:List α,aM W sz v (rs.map val)/\(∀r ∈ rs,Ok r)/\rs.length<=maxLen:=by
 rcases open_slice ht hf with ⟨hcs,_⟩|⟨a,len,cap,m,n,D,Pl,hcs,_,hl,hcm,hm,_,hi⟩
 ·obtain rfl:v = .slice none 0 0:=by simpa using hcs
  exact⟨[],aM.nil W sz,nofun,Nat.zero_le _⟩
 ·obtain rfl:v = .slice (some a) len cap:=by simpa using hcs
  have hmc:m=cap:=by simpa using hm
  subst hmc;rw[hC]at hi;have build:∀k,k<=len -> ∃rs:List α,rs.length=k/\(∀j (h:j<rs.length) i x,(val rs[j])[i]? = some x->W.cell? (a.add (j*sz+i))=some x) /\ ∀r ∈ rs,(val r).length=sz/\Ok r:=by
   intro k
   induction k with
   | zero=>exact fun _=>⟨[],rfl,fun j h=>absurd h (Nat.not_lt_zero j),nofun⟩
   | succ k ih =>
    intro hk;obtain⟨rs,h1,h2,h3⟩:=ih (by omega);obtain⟨cs',hc,htr⟩:=hi k (by omega);obtain⟨r,rfl,hok⟩:=hel _ _ _ htr;obtain⟨_,hcl,hat⟩:=World.cells?_some hc;refine⟨rs ++ [r],by simp[h1],fun j hj i x hx=>?_,fun q hq=>?_⟩
    ·by_cases hjk:j<rs.length
     ·rw[List.getElem_append_left hjk]at hx;exact h2 j hjk i x hx
     ·obtain rfl:j=rs.length:=by rw[List.length_append,List.length_singleton]at hj;omega
      have hx':(val r)[i]? = some x:=by simpa using hx
      have hi':i<sz:=by have:=(List.getElem?_eq_some_iff.1 hx').1;omega
      rw[h1,<- Go.Deep.add_add,hat i hi',hx']
    ·rcases List.mem_append.1 hq with hq|hq
     ·exact h3 q hq
     ·obtain rfl:=List.mem_singleton.1 hq;exact⟨hcl,hok⟩
  obtain⟨rs,h1,h2,h3⟩:=build len (Nat.le_refl _);refine⟨rs,⟨some a,m,by rw[List.length_map,h1],by rw[List.length_map,h1];exact hl,fun j hj=>?_⟩,fun r hr=>(h3 r hr).2,by omega⟩;rw[List.length_map]at hj;have hlen:=(h3 rs[j] (List.getElem_mem hj)).1;have h0:(0:Nat)<rs.length:=by omega
  have hl0:=(h3 rs[0] (List.getElem_mem h0)).1;have hc0:=h2 0 h0 0 ((val rs[0])[0]'(by omega)) (List.getElem?_eq_getElem _);rw[Nat.zero_mul,Nat.zero_add]at hc0;have ha:=zM hc0;refine⟨a.block,a.off,congrArg some ha,World.block_lt_of_cell? W (a.add 0) hc0,fun i x hx=>?_⟩;rw[Nat.add_assoc,<- aAk a a.block a.off _ ha];exact h2 j hj i x (by simpa using hx)
theorem kA {sz n c:Nat}{a:Option Addr}{rs:List (List Value)}(h:aM W sz (.slice a n c) rs):rs.length=n:=by
 obtain⟨b,m,e,_⟩:=h;cases e;rfl
theorem lZ {sz:Nat}{v:Value}{rs:List (List Value)}(h:aM W sz v rs):∃a n c,v = .slice a n c:=by
 obtain⟨b,m,e,_⟩:=h;exact⟨_,_,_,e⟩
theorem zT {z:Int}(h:Lit.wf (.int .u16 z)=true):0<=z/\z<65536:=by
 simp only[Lit.wf,Bool.and_eq_true,decide_eq_true_eq]at h;have h0:IntKind.min .u16=0:=by decide
 have h1:IntKind.max .u16=65535:=by decide
 rw[h0,h1]at h;omega
theorem zU {z:Int}(h:Lit.wf (.int .u32 z)=true):0<=z/\z<4294967296:=by
 simp only[Lit.wf,Bool.and_eq_true,decide_eq_true_eq]at h;have h0:IntKind.min .u32=0:=by decide
 have h1:IntKind.max .u32=4294967295:=by decide
 rw[h0,h1]at h;omega
theorem kM {z:Int}(h:Lit.wf (.int .u64 z)=true):0<=z/\z<18446744073709551616:=by
 simp only[Lit.wf,Bool.and_eq_true,decide_eq_true_eq]at h;have h0:IntKind.min .u64=0:=by decide
 have h1:IntKind.max .u64=18446744073709551615:=by decide
 rw[h0,h1]at h;omega
theorem yJ {z:Int}(h:Lit.wf (.int .i64 z)=true):-9223372036854775808<=z/\z<=9223372036854775807:=by
 simp only[Lit.wf,Bool.and_eq_true,decide_eq_true_eq]at h;have h0:IntKind.min .i64 = -9223372036854775808:=by decide
 have h1:IntKind.max .i64=9223372036854775807:=by decide
 rw[h0,h1]at h;exact h
theorem pW:Tryz.prog.cellsOf 112=2:=by kernel_rfl
theorem aAt:Tryz.prog.cellsOf 109=1:=by kernel_rfl
theorem aAu:Tryz.prog.cellsOf 110=1:=by kernel_rfl
theorem mH:Tryz.prog.cellsOf 3=1:=by kernel_rfl
theorem mI:Tryz.prog.cellsOf 2=1:=by kernel_rfl
theorem aAs:Tryz.prog.cellsOf 50=1:=by kernel_rfl
theorem pV:Tryz.prog.cellsOf 324=2:=by kernel_rfl
theorem nX:Tryz.prog.cellsOf 275=2:=by kernel_rfl
theorem aJj:Tryz.prog.cellsOf 66=1:=by kernel_rfl
theorem aJi:Tryz.prog.cellsOf 69=1:=by kernel_rfl
theorem aJk:Tryz.prog.cellsOf 74=1:=by kernel_rfl
theorem aJh:Tryz.prog.cellsOf 26=1:=by kernel_rfl
theorem sZ:Tryz.prog.cellsOf 68=3:=by kernel_rfl
theorem tC:Tryz.prog.cellsOf 71=4:=by kernel_rfl
theorem tB:Tryz.prog.cellsOf 73=13:=by kernel_rfl
theorem sY:Tryz.prog.cellsOf 76=19:=by kernel_rfl
theorem tA:Tryz.prog.cellsOf 25=6:=by kernel_rfl
theorem aAr:Tryz.prog.cellsOf 28=9:=by kernel_rfl
theorem yQ {n:Nat}{cs:List Value}{y:DataW H × List MemPlace}(h:DataW.trod enc Tryz.prog W 0 (fun _=>true) true n 112 cs=some y):∃r:aO,cs=trV r/\(0<=r.f/\r.f<=65535/\0<=r.t/\r.t<=4294967295):=by
 obtain⟨xs,k,_,_,hl,hxl,hg⟩:=DataW.trod_struct Tryz.underlying112 h;rw[pW]at hl
 match cs,hl with
 | [c0,c1],_ =>
  match xs,hxl with
  | [y0,y1],_ =>
   have g0:=hg 0 _ rfl;have g1:=hg 1 _ rfl;simp only[List.getElem_toArray,List.getElem_cons_zero,List.getElem_cons_succ]at g0 g1;rw[aAt]at g0;rw[aAu]at g1;simp only[List.drop_zero,List.drop_succ_cons,List.take_succ_cons,List.take_zero,List.getElem?_cons_zero,List.getElem?_cons_succ]at g0 g1;obtain⟨z0,e0,_,w0⟩:=DataW.trod_int Tryz.underlying109 g0;obtain rfl:c0 = .int .u16 z0:=by simpa using e0
   obtain⟨z1,e1,_,w1⟩:=DataW.trod_int Tryz.underlying110 g1;obtain rfl:c1 = .int .u32 z1:=by simpa using e1
   have r0:=zT w0;have r1:=zU w1;exact⟨⟨z0,z1⟩,rfl,by show 0<=z0/\z0<=65535/\0<=z1/\z1<=4294967295;omega⟩
theorem yP {n:Nat}{cs:List Value}{y:DataW H × List MemPlace}(h:DataW.trod enc Tryz.prog W 0 (fun _=>true) true n 324 cs=some y):∃r:aO,cs=spV r/\True:=by
 obtain⟨xs,k,_,_,hl,hxl,hg⟩:=DataW.trod_struct Tryz.underlying324 h;rw[pV]at hl
 match cs,hl with
 | [c0,c1],_ =>
  match xs,hxl with
  | [y0,y1],_ =>
   have g0:=hg 0 _ rfl;have g1:=hg 1 _ rfl;simp only[List.getElem_toArray,List.getElem_cons_zero,List.getElem_cons_succ]at g0 g1;rw[mI]at g0 g1;simp only[List.drop_zero,List.drop_succ_cons,List.take_succ_cons,List.take_zero,List.getElem?_cons_zero,List.getElem?_cons_succ]at g0 g1;obtain⟨z0,e0,_,w0⟩:=DataW.trod_int Tryz.underlying2 g0;obtain rfl:c0 = .int .i64 z0:=by simpa using e0
   obtain⟨z1,e1,_,w1⟩:=DataW.trod_int Tryz.underlying2 g1;obtain rfl:c1 = .int .i64 z1:=by simpa using e1
   exact⟨⟨z0,z1⟩,rfl,trivial⟩
theorem wB {n:Nat}{cs:List Value}{y:DataW H × List MemPlace}(h:DataW.trod enc Tryz.prog W 0 (fun _=>true) true n 275 cs=some y):∃r:aO,cs=spV r/\True:=by
 obtain⟨xs,k,_,_,hl,hxl,hg⟩:=DataW.trod_struct Tryz.underlying275 h;rw[nX]at hl
 match cs,hl with
 | [c0,c1],_ =>
  match xs,hxl with
  | [y0,y1],_ =>
   have g0:=hg 0 _ rfl;have g1:=hg 1 _ rfl;simp only[List.getElem_toArray,List.getElem_cons_zero,List.getElem_cons_succ]at g0 g1;rw[mI]at g0;rw[mH]at g1;simp only[List.drop_zero,List.drop_succ_cons,List.take_succ_cons,List.take_zero,List.getElem?_cons_zero,List.getElem?_cons_succ]at g0 g1;obtain⟨z0,e0,_,w0⟩:=DataW.trod_int Tryz.underlying2 g0;obtain rfl:c0 = .int .i64 z0:=by simpa using e0
   obtain⟨z1,e1,_,w1⟩:=DataW.trod_int Tryz.underlying3 g1;obtain rfl:c1 = .int .i64 z1:=by simpa using e1
   exact⟨⟨z0,z1⟩,rfl,trivial⟩
theorem aIm {n:Nat}{v:Value}{y:DataW H × List MemPlace}(h:DataW.trod enc Tryz.prog W 0 (fun _=>true) true n 74 [v]=some y):∃(l:List aO) (a:Option Addr) (m c:Nat),v = .slice a m c/\aM W 2 (.slice a m c) (l.map trV)/\TrR l:=by
 obtain⟨rs,h1,h2,_⟩:=kI (val:=trV) (Ok:=fun r:aO=>0<=r.f/\r.f<=65535/\0<=r.t/\r.t<=4294967295) Tryz.underlying74 pW (by decide) (fun n cs y h=>yQ h) h;obtain⟨a,m,c,rfl⟩:=lZ h1;exact⟨rs,a,m,c,rfl,h1,h2⟩
theorem tY {n:Nat}{v:Value}{y:DataW H × List MemPlace}(h:DataW.trod enc Tryz.prog W 0 (fun _=>true) true n 66 [v]=some y):∃(l:List aO) (a:Option Addr) (m c:Nat),v = .slice a m c/\aM W 2 (.slice a m c) (l.map spV):=by
 obtain⟨rs,h1,_,_⟩:=kI (val:=spV) (Ok:=fun _:aO=>True) Tryz.underlying66 pV (by decide) (fun n cs y h=>yP h) h;obtain⟨a,m,c,rfl⟩:=lZ h1;exact⟨rs,a,m,c,rfl,h1⟩
theorem aIl {n:Nat}{v:Value}{y:DataW H × List MemPlace}(h:DataW.trod enc Tryz.prog W 0 (fun _=>true) true n 69 [v]=some y):∃(l:List aO) (a:Option Addr) (m c:Nat),v = .slice a m c/\aM W 2 (.slice a m c) (l.map spV):=by
 obtain⟨rs,h1,_,_⟩:=kI (val:=spV) (Ok:=fun _:aO=>True) Tryz.underlying69 nX (by decide) (fun n cs y h=>wB h) h;obtain⟨a,m,c,rfl⟩:=lZ h1;exact⟨rs,a,m,c,rfl,h1⟩
theorem aIh {n:Nat}{cs:List Value}{y:DataW H × List MemPlace}(h:DataW.trod enc Tryz.prog W 0 (fun _=>true) true n 68 cs=some y):∃(k:fC) (a:Option Addr) (n c:Nat) (a2:Option Addr) (n2 c2:Nat),cs = [.int .i64 k.o,.slice a n c,.slice a2 n2 c2]/\aM W 2 (.slice a n c) (k.w.map spV)/\aM W 2 (.slice a2 n2 c2) (k.c.map spV):=by
 obtain⟨xs,k,_,_,hl,hxl,hg⟩:=DataW.trod_struct Tryz.underlying68 h;rw[sZ]at hl
 match cs,hl with
 | [c0,c1,c2],_ =>
  match xs,hxl with
  | [y0,y1,y2],_ =>
   have g0:=hg 0 _ rfl;have g1:=hg 1 _ rfl;have g2:=hg 2 _ rfl;simp only[List.getElem_toArray,List.getElem_cons_zero,List.getElem_cons_succ]at g0 g1 g2;rw[mI]at g0;rw[aJj]at g1 g2;simp only[List.drop_zero,List.drop_succ_cons,List.take_succ_cons,List.take_zero,List.getElem?_cons_zero,List.getElem?_cons_succ]at g0 g1 g2;obtain⟨z0,e0,_,_⟩:=DataW.trod_int Tryz.underlying2 g0;obtain rfl:c0 = .int .i64 z0:=by simpa using e0
   obtain⟨l1,a1,n1,d1,rfl,s1⟩:=tY g1;obtain⟨l2,a2,n2,d2,rfl,s2⟩:=tY g2;exact⟨⟨z0,l1,l2⟩,a1,n1,d1,a2,n2,d2,rfl,s1,s2⟩
theorem aIk {n:Nat}{cs:List Value}{y:DataW H × List MemPlace}(h:DataW.trod enc Tryz.prog W 0 (fun _=>true) true n 71 cs=some y):∃(k:fS) (a:Option Addr) (n c:Nat),cs = [.int .i64 k.c,.slice a n c,.int .i64 k.r,.int .i64 k.b]/\aM W 2 (.slice a n c) (k.l.map spV):=by
 obtain⟨xs,k,_,_,hl,hxl,hg⟩:=DataW.trod_struct Tryz.underlying71 h;rw[tC]at hl
 match cs,hl with
 | [c0,c1,c2,c3],_ =>
  match xs,hxl with
  | [y0,y1,y2,y3],_ =>
   have g0:=hg 0 _ rfl;have g1:=hg 1 _ rfl;have g2:=hg 2 _ rfl;have g3:=hg 3 _ rfl;simp only[List.getElem_toArray,List.getElem_cons_zero,List.getElem_cons_succ]at g0 g1 g2 g3;rw[mH]at g0 g2;rw[aJi]at g1;rw[mI]at g3;simp only[List.drop_zero,List.drop_succ_cons,List.take_succ_cons,List.take_zero,List.getElem?_cons_zero,List.getElem?_cons_succ]at g0 g1 g2 g3;obtain⟨z0,e0,_,_⟩:=DataW.trod_int Tryz.underlying3 g0;obtain rfl:c0 = .int .i64 z0:=by simpa using e0
   obtain⟨l1,a1,n1,d1,rfl,s1⟩:=aIl g1;obtain⟨z2,e2,_,_⟩:=DataW.trod_int Tryz.underlying3 g2;obtain rfl:c2 = .int .i64 z2:=by simpa using e2
   obtain⟨z3,e3,_,_⟩:=DataW.trod_int Tryz.underlying2 g3;obtain rfl:c3 = .int .i64 z3:=by simpa using e3
   exact⟨⟨z0,l1,z2,z3⟩,a1,n1,d1,rfl,s1⟩
def aKy (W:World)(c:cI)(A:fO):Prop:=aM W 2 (.slice A.wa A.wn A.wc) (c.cal.w.map spV)/\aM W 2 (.slice A.ca A.cn A.cc) (c.cal.c.map spV)/\aM W 2 (.slice A.la A.ln A.lc) (c.tm.l.map spV)/\(-9223372036854775808<=c.at'/\c.at'<9223372036854775808)/\mC c
theorem aIj {n:Nat}{cs:List Value}{y:DataW H × List MemPlace}(h:DataW.trod enc Tryz.prog W 0 (fun _=>true) true n 73 cs=some y):∃(c:cI) (A:fO),cs=gY c A/\aKy W c A:=by
 obtain⟨xs,k,_,_,hl,hxl,hg⟩:=DataW.trod_struct Tryz.underlying73 h;rw[tB]at hl
 match cs,hl with
 | [c0,c1,c2,c3,c4,c5,c6,c7,c8,c9,c10,c11,c12],_ =>
  match xs,hxl with
  | [y0,y1,y2,y3,y4,y5,y6,y7],_ =>
   have g0:=hg 0 _ rfl;have g1:=hg 1 _ rfl;have g2:=hg 2 _ rfl;have g3:=hg 3 _ rfl;have g4:=hg 4 _ rfl;have g5:=hg 5 _ rfl;have g6:=hg 6 _ rfl;have g7:=hg 7 _ rfl;simp only[List.getElem_toArray,List.getElem_cons_zero,List.getElem_cons_succ]at g0 g1 g2 g3 g4 g5 g6 g7;rw[mH]at g0 g4;rw[aAs]at g1 g2 g3;rw[mI]at g5;rw[sZ]at g6;rw[tC]at g7;simp only[List.drop_zero,List.drop_succ_cons,List.take_succ_cons,List.take_zero,List.getElem?_cons_zero,List.getElem?_cons_succ]at g0 g1 g2 g3 g4 g5 g6 g7;obtain⟨z0,e0,_,_⟩:=DataW.trod_int Tryz.underlying3 g0;obtain rfl:c0 = .int .i64 z0:=by simpa using e0
   obtain⟨z1,e1,_,w1⟩:=DataW.trod_int Tryz.underlying50 g1;obtain rfl:c1 = .int .u64 z1:=by simpa using e1
   obtain⟨z2,e2,_,w2⟩:=DataW.trod_int Tryz.underlying50 g2;obtain rfl:c2 = .int .u64 z2:=by simpa using e2
   obtain⟨z3,e3,_,w3⟩:=DataW.trod_int Tryz.underlying50 g3;obtain rfl:c3 = .int .u64 z3:=by simpa using e3
   obtain⟨z4,e4,_,_⟩:=DataW.trod_int Tryz.underlying3 g4;obtain rfl:c4 = .int .i64 z4:=by simpa using e4
   obtain⟨z5,e5,_,w5⟩:=DataW.trod_int Tryz.underlying2 g5;obtain rfl:c5 = .int .i64 z5:=by simpa using e5
   obtain⟨kc,wa,wn,wc,ca,cn,cc,hk,s1,s2⟩:=aIh g6;simp only[List.cons.injEq,and_true]at hk;obtain⟨rfl,rfl,rfl⟩:=hk;obtain⟨kt,la,ln,lc,hk,s3⟩:=aIk g7;simp only[List.cons.injEq,and_true]at hk;obtain⟨rfl,rfl,rfl,rfl⟩:=hk;have r1:=kM w1;have r2:=kM w2;have r3:=kM w3;have r5:=yJ w5;exact⟨⟨z0,z1,z2,z3,z4,z5,kc,kt⟩,⟨wa,wn,wc,ca,cn,cc,la,ln,lc⟩,rfl,s1,s2,s3,⟨r5.1,Int.lt_of_le_of_lt r5.2 (by decide)⟩,r1.1,r2.1,r2.2,r3.1,r3.2⟩
def wO (W:World)(p:aL × aT):Prop:=aKy W p.1.com p.2.com/\aM W 2 (.slice p.2.ta p.2.tn p.2.tc) (p.1.ts.map trV)/\(0<=p.1.id/\p.1.id<18446744073709551616)/\TrR p.1.ts
theorem aIg {n:Nat}{cs:List Value}{y:DataW H × List MemPlace}(h:DataW.trod enc Tryz.prog W 0 (fun _=>true) true n 76 cs=some y):∃p:aL × aT,cs=cJ p.1 p.2/\wO W p:=by
 obtain⟨xs,k,_,_,hl,hxl,hg⟩:=DataW.trod_struct Tryz.underlying76 h;rw[sY]at hl
 match cs,hl with
 | [c0,c1,c2,c3,c4,c5,c6,c7,c8,c9,c10,c11,c12,c13,c14,c15,c16,c17,c18],_ =>
  match xs,hxl with
  | [y0,y1,y2,y3,y4,y5,y6],_ =>
   have g0:=hg 0 _ rfl;have g1:=hg 1 _ rfl;have g2:=hg 2 _ rfl;have g3:=hg 3 _ rfl;have g4:=hg 4 _ rfl;have g5:=hg 5 _ rfl;have g6:=hg 6 _ rfl;simp only[List.getElem_toArray,List.getElem_cons_zero,List.getElem_cons_succ]at g0 g1 g2 g3 g4 g5 g6;rw[mH]at g0 g1 g2 g3;rw[aAs]at g4;rw[tB]at g5;rw[aJk]at g6;simp only[List.drop_zero,List.drop_succ_cons,List.take_succ_cons,List.take_zero,List.getElem?_cons_zero,List.getElem?_cons_succ]at g0 g1 g2 g3 g4 g5 g6;obtain⟨z0,e0,_,_⟩:=DataW.trod_int Tryz.underlying3 g0;obtain rfl:c0 = .int .i64 z0:=by simpa using e0
   obtain⟨z1,e1,_,_⟩:=DataW.trod_int Tryz.underlying3 g1;obtain rfl:c1 = .int .i64 z1:=by simpa using e1
   obtain⟨z2,e2,_,_⟩:=DataW.trod_int Tryz.underlying3 g2;obtain rfl:c2 = .int .i64 z2:=by simpa using e2
   obtain⟨z3,e3,_,_⟩:=DataW.trod_int Tryz.underlying3 g3;obtain rfl:c3 = .int .i64 z3:=by simpa using e3
   obtain⟨z4,e4,_,w4⟩:=DataW.trod_int Tryz.underlying50 g4;obtain rfl:c4 = .int .u64 z4:=by simpa using e4
   obtain⟨cm,A,hk,sC⟩:=aIj g5;obtain⟨ts,a18,n18,d18,rfl,sT,hT⟩:=aIm g6;have r4:=kM w4;refine⟨(⟨z0,z1,z2,z3,z4,cm,ts⟩,⟨A,a18,n18,d18⟩),?_,sC,sT,r4,hT⟩;unfold cJ;rw[<- hk];rfl
theorem wO.is {p:aL × aT}(h:wO W p)(k:ltA p.2=true):bO W p.1 p.2/\qZ p.1:=by
 obtain⟨⟨s1,s2,s3,hat,hc⟩,sT,hid,hT⟩:=h;unfold ltA ltC ltK at k;simp only[Bool.and_eq_true,decide_eq_true_eq]at k;obtain⟨k1,⟨k2,k3⟩,k4⟩:=k;have l1:=kA s1;have l2:=kA s2;have l3:=kA s3;have l4:=kA sT;rw[List.length_map]at l1 l2 l3 l4;exact⟨⟨⟨⟨s1,s2,l1,l2,by omega,by omega⟩,⟨s3,l3,by omega⟩,hat.1,hat.2⟩,sT,l4,by omega⟩,hc,hid,hT⟩
theorem aIi {n:Nat}{cs:List Value}{y:DataW H × List MemPlace}(h:DataW.trod enc Tryz.prog W 0 (fun _=>true) true n 25 cs=some y):∃c:pF,cs=aJl c:=by
 obtain⟨xs,k,_,_,hl,hxl,hg⟩:=DataW.trod_struct Tryz.underlying25 h;rw[tA]at hl
 match cs,hl with
 | [c0,c1,c2,c3,c4,c5],_ =>
  match xs,hxl with
  | [y0,y1,y2,y3,y4,y5],_ =>
   have g0:=hg 0 _ rfl;have g1:=hg 1 _ rfl;have g2:=hg 2 _ rfl;have g3:=hg 3 _ rfl;have g4:=hg 4 _ rfl;have g5:=hg 5 _ rfl;simp only[List.getElem_toArray,List.getElem_cons_zero,List.getElem_cons_succ]at g0 g1 g2 g3 g4 g5;rw[mH]at g0 g1 g2 g3 g4 g5;simp only[List.drop_zero,List.drop_succ_cons,List.take_succ_cons,List.take_zero,List.getElem?_cons_zero,List.getElem?_cons_succ]at g0 g1 g2 g3 g4 g5;obtain⟨z0,e0,_,_⟩:=DataW.trod_int Tryz.underlying3 g0;obtain rfl:c0 = .int .i64 z0:=by simpa using e0
   obtain⟨z1,e1,_,_⟩:=DataW.trod_int Tryz.underlying3 g1;obtain rfl:c1 = .int .i64 z1:=by simpa using e1
   obtain⟨z2,e2,_,_⟩:=DataW.trod_int Tryz.underlying3 g2;obtain rfl:c2 = .int .i64 z2:=by simpa using e2
   obtain⟨z3,e3,_,_⟩:=DataW.trod_int Tryz.underlying3 g3;obtain rfl:c3 = .int .i64 z3:=by simpa using e3
   obtain⟨z4,e4,_,_⟩:=DataW.trod_int Tryz.underlying3 g4;obtain rfl:c4 = .int .i64 z4:=by simpa using e4
   obtain⟨z5,e5,_,_⟩:=DataW.trod_int Tryz.underlying3 g5;obtain rfl:c5 = .int .i64 z5:=by simpa using e5
   exact⟨⟨z0,z1,z2,z3,z4,z5⟩,rfl⟩
theorem mX {base:Nat}{v:Value}{d:DataW H}{ps:List MemPlace}(hv:Value.okWide Tryz.prog W .any base 28 v)(h:DataW.Trod enc Tryz.prog W 0 (fun _=>true) true 28 v d ps) :
  ∃(s:bU) (L:List (aL × aT)) (a:Option Addr) (n c:Nat),v = .agg (gR s a n c).toArray/\vP W s L a n c:=by
 obtain⟨cs,rfl,hsz⟩:=okWide_struct Tryz.underlying28 hv;obtain⟨l⟩:=cs;obtain⟨fuel,hf⟩:=h;obtain⟨xs,n,_,hx,hl,hxl,hg⟩:=DataW.trod_struct Tryz.underlying28 hf
 match l,hsz.trans aAr with
 | [c0,c1,c2,c3,c4,c5,c6,c7,c8],_ =>
  match xs,hxl with
  | [y0,y1,y2,y3],_ =>
   have g0:=hg 0 _ rfl;have g1:=hg 1 _ rfl;have g2:=hg 2 _ rfl;have g3:=hg 3 _ rfl;simp only[Value.cells,List.getElem_toArray,List.getElem_cons_zero,List.getElem_cons_succ]at g0 g1 g2 g3;rw[tA]at g0;rw[aJh]at g1;rw[mH]at g2;rw[mI]at g3;simp only[List.drop_zero,List.drop_succ_cons,List.take_succ_cons,List.take_zero,List.getElem?_cons_zero,List.getElem?_cons_succ]at g0 g1 g2 g3;obtain⟨cf,hk⟩:=aIi g0;obtain⟨rs,h1,h2,h3⟩:=kI (val:=fun p:aL × aT=>cJ p.1 p.2) (Ok:=wO W) Tryz.underlying26 sY (by decide) (fun n cs y h=>aIg h) g1;obtain⟨a,m,c,rfl⟩:=lZ h1;obtain⟨z2,e2,_,_⟩:=DataW.trod_int Tryz.underlying3 g2;obtain rfl:c7 = .int .i64 z2:=by simpa using e2
   obtain⟨z3,e3,_,_⟩:=DataW.trod_int Tryz.underlying2 g3;obtain rfl:c8 = .int .i64 z3:=by simpa using e3
   have hlen:=kA h1;rw[List.length_map]at hlen;have hmx:maxLen=9223372036854775807:=by decide
   refine⟨⟨cf,rs.map (·.1),z2,z3⟩,rs,a,m,c,?_,h1,hlen,by omega,fun k=>?_⟩
   ·unfold gR;rw[<- hk];rfl
   ·rw[Bool.and_eq_true,decide_eq_true_eq,List.all_eq_true]at k;refine⟨⟨⟨h1,hlen,by omega,fun p hp=>((h2 p hp).is (k.2 p hp)).1⟩,rfl⟩,fun q hq=>?_⟩;obtain⟨p,hp,rfl⟩:=List.mem_map.1 hq;exact((h2 p hp).is (k.2 p hp)).2
end
