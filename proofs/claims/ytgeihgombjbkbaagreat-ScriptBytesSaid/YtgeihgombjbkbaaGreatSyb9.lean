/- For scbytes_law_holds. -/
import Derived.WalkKit
import Derived.Maps.OwnSet
import Derived.Maps.AppendAt
import Derived.WalkSpells
import Derived.BigQuiet
import Derived.Outline
import Derived.Deep.QuietTactic
import Derived.Deep.DeepFit
import Derived.Lib.Hide
import Derived.OpenShut
import Derived.Deep.AppendLies
import Derived.Deep.AppendSrc
import Derived.StillTailTactics
import Derived.Deep.RegionHeld3
namespace Go.Proofs.Own

def turns:Nat:=8801531
def kW (s:Nat):Nat:=(2*s % 16777216) ^^^ (if s / 8388608 % 2=1 then turns else 0)
def kX (s b:Nat):Nat:=(2*s % 16777216) ^^^ (if s / 8388608 % 2≠b then turns else 0)

theorem vI:turns<2 ^ 24:=by decide
theorem aIZ (s:Nat):kW s<16777216:=by
 unfold kW;refine Nat.xor_lt_two_pow (n:=24) (Nat.mod_lt _ (by decide)) ?_;split
 ·exact vI
 ·decide
theorem aI0 (s b:Nat):kX s b<16777216:=by
 unfold kX;refine Nat.xor_lt_two_pow (n:=24) (Nat.mod_lt _ (by decide)) ?_;split
 ·exact vI
 ·decide

theorem vJ (x y:Nat):2*(x ^^^ y)=(2*x) ^^^ (2*y):=by
 have:=Nat.shiftLeft_xor_distrib (a:=x) (b:=y) (i:=1)
 simpa [Nat.shiftLeft_eq,Nat.mul_comm] using this
theorem aKp (x y:Nat):(x ^^^ y) / 8388608 % 2=(x / 8388608 % 2+y / 8388608 % 2) % 2:=by
 have h:=Nat.testBit_xor x y 23;simp only[Nat.testBit_eq_decide_div_mod_eq]at h;have h1:(2:Nat) ^ 23=8388608:=by decide
 rw[h1]at h;rcases Nat.mod_two_eq_zero_or_one (x / 8388608) with hx|hx<;>rcases Nat.mod_two_eq_zero_or_one (y / 8388608) with hy|hy <;>
  rcases Nat.mod_two_eq_zero_or_one ((x ^^^ y) / 8388608) with hz|hz<;>simp[hx,hy,hz]at h ⊢

theorem xlc (a b c:Nat):a ^^^ (b ^^^ c)=b ^^^ (a ^^^ c):=by rw[<- Nat.xor_assoc,Nat.xor_comm a b,Nat.xor_assoc]

theorem zP (r d:Nat)(_hd:d<256):kW (r ^^^ (d*65536))=kX r (d / 128 % 2) ^^^ ((2*d % 256)*65536):=by
 unfold kW kX;have e1:2*(r ^^^ (d*65536)) % 16777216=(2*r % 16777216) ^^^ ((2*d % 256)*65536):=by
  rw[vJ,show (16777216:Nat)=2 ^ 24 from rfl,Nat.xor_mod_two_pow]
  congr 1
  omega
 have e2:(r ^^^ (d*65536)) / 8388608 % 2=(r / 8388608 % 2+d / 128 % 2) % 2:=by
  rw[aKp]
  congr 2
  omega
 rw[e1,e2];rcases Nat.mod_two_eq_zero_or_one (r / 8388608) with hx|hx<;>rcases Nat.mod_two_eq_zero_or_one (d / 128) with hy|hy <;>
  simp[hx,hy,Nat.xor_comm,xlc]

def turnP:Nat->Nat->Nat
 | 0,s=>s
 | i+1,s=>kW (turnP i s)
def kZ (c:Nat):Nat->Nat->Nat
 | 0,s=>s
 | i+1,s=>kX (kZ c i s) (c / 2 ^ (7-i) % 2)
theorem qV (c s:Nat)(hc:c<256):∀i,i<=8->turnP i (s ^^^ (c*65536))=kZ c i s ^^^ ((c*2 ^ i % 256)*65536)
 | 0,_=>by simp[turnP,kZ,Nat.mod_eq_of_lt hc]
 | i+1,h=>by
  rw[turnP,kZ,qV c s hc i (by omega),zP _ _ (Nat.mod_lt _ (by decide))];have hi:i=0\/i=1\/i=2\/i=3\/i=4\/i=5\/i=6\/i=7:=by omega
  have f1:c*2 ^ i % 256 / 128 % 2=c / 2 ^ (7-i) % 2:=by
   rcases hi with rfl|rfl|rfl|rfl|rfl|rfl|rfl|rfl<;>simp only[Nat.reducePow,Nat.reduceSub]<;>omega
  have f2:2*(c*2 ^ i % 256) % 256=c*2 ^ (i+1) % 256:=by
   rcases hi with rfl|rfl|rfl|rfl|rfl|rfl|rfl|rfl<;>simp only[Nat.reducePow,Nat.reduceAdd]<;>omega
  rw[f1,f2]
theorem xT (c s:Nat)(hc:c<256):turnP 8 (s ^^^ (c*65536))=kZ c 8 s:=by
 rw[qV c s hc 8 (by omega)];have:c*2 ^ 8 % 256=0:=by omega
 rw[this];simp
end Go.Proofs.Own
namespace Go.Proofs.Own
open Go Go.RowKit

structure Kept (w w':World)(S:Nat->Prop):Prop where
 os:w'.os=w.os
 tape:w'.tape=w.tape
 output:w'.output=w.output
 size:w.heap.size<=w'.heap.size
 block:∀k,k<w.heap.size -> ¬S k->w'.heap[k]? = w.heap[k]?

theorem Kept.refl (w:World)(S:Nat->Prop):Kept w w S:=⟨rfl,rfl,rfl,Nat.le_refl _,fun _ _ _=>rfl⟩
theorem Kept.mono {w w':World}{S T:Nat->Prop}(h:Kept w w' S)(hs:∀k,k<w.heap.size->S k->T k):Kept w w' T :=
 ⟨h.os,h.tape,h.output,h.size,fun k hk ht=>h.block k hk fun hs'=>ht (hs k hk hs')⟩
theorem Kept.trans {a b c:World}{S:Nat->Prop}(h:Kept a b S)(k:Kept b c S):Kept a c S :=
 ⟨k.os.trans h.os, k.tape.trans h.tape, k.output.trans h.output, Nat.le_trans h.size k.size,
  fun i hi hs=>(k.block i (Nat.lt_of_lt_of_le hi h.size) hs).trans (h.block i hi hs)⟩
theorem Kept.andThen {a b c:World}{S T U:Nat->Prop}(h:Kept a b S)(k:Kept b c T)(hu:∀k,k<a.heap.size->S k\/T k->U k):Kept a c U :=
 ⟨k.os.trans h.os, k.tape.trans h.tape, k.output.trans h.output, Nat.le_trans h.size k.size,
  fun i hi hs=>(k.block i (Nat.lt_of_lt_of_le hi h.size) fun ht=>hs (hu i hi (.inr ht))).trans (h.block i hi fun h1=>hs (hu i hi (.inl h1)))⟩
theorem Kept.xM {a b c:World}{S:Nat->Prop}{n:Nat}(h:Kept a b S)(k:Kept b c (fun k=>k=n))(hn:a.heap.size<=n):Kept a c S :=
 h.andThen k fun k h1 h2=>by
  rcases h2 with h2|h2
  ·exact h2
  ·omega
theorem Kept.aQ {B:Nat}{w w':World}(h:Below B w w'){S:Nat->Prop}(hS:∀k,k<w.heap.size->B<=k->S k):Kept w w' S :=
 ⟨h.os,h.tape,h.output,h.size,fun k hk hs=>by
  by_cases hB:k<B
  ·exact h.block k hB
  ·exact(hs (hS k hk (by omega))).elim⟩
theorem Kept.below {B:Nat}{w w':World}{S:Nat->Prop}(h:Kept w w' S)(hB:B<=w.heap.size)(hS:∀k,S k->B<=k):Below B w w' :=
 ⟨h.os,h.tape,h.output,h.size,fun k hk=>h.block k (by omega) fun hs=>by have:=hS k hs;omega⟩
theorem Kept.eX {w w':World}{row:Option Nat}(h:w.grownBy w' row):Kept w w' (fun k=>row=some k) :=
 ⟨h.os,h.tape,h.output,h.size,fun k hk hs=>h.block k hk fun e=>hs e.symm⟩
theorem Kept.alloc (w:World)(o:Obj)(S:Nat->Prop):Kept w (w.alloc o) S:=Kept.aQ (Below.refl w.heap.size w |>.alloc (Nat.le_refl _) o) fun k h1 h2=>by omega
theorem Kept.drew (w:World)(S:Nat->Prop):Kept w w.drew S:=⟨rfl,rfl,rfl,Nat.le_refl _,fun _ _ _=>rfl⟩
theorem Kept.setCell (w:World)(a:Addr)(v:Value):Kept w (w.setCell a v) (fun k=>k=a.block) :=
 ⟨rfl,rfl,rfl,by simp[World.setCell],fun k _ hs=>Below.heap_setCell _ _ _ _ hs⟩
theorem Kept.cell {w w':World}{S:Nat->Prop}(h:Kept w w' S){a:Addr}{v:Value}(hc:w.cell? a=some v)(hs:¬S a.block):w'.cell? a=some v :=
 (World.cell?_of_block (h.block a.block (World.block_lt_of_cell? w a hc) hs)).trans hc
theorem Kept.frozen {w w':World}{S:Nat->Prop}(h:Kept w w' S){a:Addr}(hl:a.block<w.heap.size)(hs:¬S a.block):w'.frozen? a=w.frozen? a :=
 World.frozen?_of_block (h.block a.block hl hs)

def Reads (w:World)(k:IntKind)(v:Value)(zs:List Int):Prop :=
 ∃a c,v = .slice a zs.length c /\ ∀j (h:j<zs.length),∃b o,a=some ⟨b,o,none⟩/\w.cell? ⟨b,o+j,none⟩=some (.int k (zs[j]'h))

theorem Reads.kept {w w':World}{k:IntKind}{v:Value}{zs:List Int}{S:Nat->Prop}(h:Reads w k v zs)(hk:Kept w w' S)(hs:∀b,v.ownBlock=some b -> ¬S b):Reads w' k v zs:=by
 obtain⟨a,c,rfl,hc⟩:=h;refine⟨a,c,rfl,fun j hj=>?_⟩;obtain⟨b,o,rfl,h1⟩:=hc j hj;exact⟨b,o,rfl,hk.cell h1 (hs b rfl)⟩
theorem Reads.below {w w':World}{k:IntKind}{v:Value}{zs:List Int}(h:Reads w k v zs)(hb:Below w.heap.size w w'):Reads w' k v zs :=
 h.kept (Kept.aQ hb (S:=fun _=>False) fun k h1 h2=>by omega) fun _ _ h=>h
theorem Reads.alloc {w:World}{k:IntKind}{v:Value}{zs:List Int}(h:Reads w k v zs)(o:Obj):Reads (w.alloc o) k v zs:=h.below ((Below.refl _ _).alloc (Nat.le_refl _) o)
theorem Reads.nil (w:World)(k:IntKind)(a:Option Addr)(c:Nat):Reads w k (.slice a 0 c) []:=⟨a,c,rfl,fun j h=>absurd h (Nat.not_lt_zero j)⟩
theorem Reads.dJ {w:World}{base:Nat}{e:TypeId}{k:IntKind}{v:Value}{zs:List Int}(h:w.ownsRow base e 1 v zs.length (zs.map (.int k))):Reads w k v zs:=by
 rcases h.2 with ⟨rfl,h0⟩|⟨g,cap,cur,rfl,_⟩
 ·have:zs = []:=List.eq_nil_of_length_eq_zero h0;subst this;exact Reads.nil _ _ _ _
 ·refine⟨_,_,rfl,fun j hj=>⟨g,0,rfl,?_⟩⟩;rw[Nat.zero_add,h.cellAt j (by omega)];simp[hj]

def aX (w:World)(base:Nat)(e:TypeId)(k:IntKind)(v:Value)(zs:List Int):Prop:=w.ownsRow base e 1 v zs.length (zs.map (.int k))
theorem aX.reads {w:World}{base:Nat}{e:TypeId}{k:IntKind}{v:Value}{zs:List Int}(h:aX w base e k v zs):Reads w k v zs:=Reads.dJ h
theorem aX.nil (w:World)(base:Nat)(e:TypeId)(k:IntKind):aX w base e k (.slice none 0 0) []:=World.ownsRow_nil w base e 1
theorem aX.lt {w:World}{base:Nat}{e:TypeId}{k:IntKind}{v:Value}{zs:List Int}(h:aX w base e k v zs):∀b,v.ownBlock=some b->base<=b/\b<w.heap.size:=World.ownsRow.lt h
theorem aX.kept {w w':World}{base:Nat}{e:TypeId}{k:IntKind}{v:Value}{zs:List Int}{S:Nat->Prop}(h:aX w base e k v zs)(hk:Kept w w' S)(hs:∀b,v.ownBlock=some b -> ¬S b):aX w' base e k v zs:=by
 refine⟨h.1,?_⟩;rcases h.2 with hn|⟨g,cap,cur,rfl,hb,hg,r⟩
 ·exact .inl hn
 ·exact .inr ⟨g,cap,cur,rfl,hb,by rw[hk.block g (Array.getElem?_eq_some_iff.1 hg).1 (hs g rfl)];exact hg,r⟩
theorem aX.below {w w':World}{base:Nat}{e:TypeId}{k:IntKind}{v:Value}{zs:List Int}(h:aX w base e k v zs)(hb:Below w.heap.size w w'):aX w' base e k v zs :=
 h.kept (Kept.aQ hb (S:=fun _=>False) fun k h1 h2=>by omega) fun _ _ h=>h
theorem aX.alloc {w:World}{base:Nat}{e:TypeId}{k:IntKind}{v:Value}{zs:List Int}(h:aX w base e k v zs)(o:Obj):aX (w.alloc o) base e k v zs:=World.ownsRow.alloc h o
theorem aX.lower {w:World}{base base':Nat}{e:TypeId}{k:IntKind}{v:Value}{zs:List Int}(h:aX w base e k v zs)(hb:∀b,v.ownBlock=some b->base'<=b):aX w base' e k v zs:=by
 refine⟨h.1,?_⟩;rcases h.2 with hn|⟨g,cap,cur,rfl,_,r⟩
 ·exact .inl hn
 ·exact .inr ⟨g,cap,cur,rfl,hb g rfl,r⟩

structure eE (P:Program)(t e:TypeId)(q:IntKind)(by':Nat):Prop where
 under:P.underlying t=some (.slice e)
 info:(P.info? e).map (fun i=>(i.zero,i.size,i.bytes))=some (some (.int q 0),1,by')

theorem nG {P:Program}{t e:TypeId}{q:IntKind}{by':Nat}(I:eE P t e q by')(w:World)(ty:TypeId)(base:Nat)(v x:Value)(zs ns:List Int)
  (hown:aX w base e q v zs) (hr:Reads w q x ns) (hby:by'<=8) (hlen:zs.length+ns.length<=4294967296) (hbase:base<=w.heap.size) :
  ∃v' w',(Builtin.append_ #[t,t] ty #[v,x]).run P w = .ok v' w'/\aX w' base e q v' (zs++ns)/\w.grownBy w' v.ownBlock/\(v'.ownBlock=v.ownBlock\/v'.ownBlock=some w.heap.size) /\
   (v' = .slice none 0 0 ↔ v = .slice none 0 0/\ns = [])/\Below base w w':=by
 obtain⟨i0,hi,hz0,hz1,hz2⟩:=info_parts I.info;obtain⟨a,c,rfl,hc⟩:=hr;cases a with
 | some ad =>
  obtain⟨v',w',hrun,h1,h2,h3,h4⟩:=run_append_own_at (P:=P) w base t ty e i0 (.int q 0) 1 by' I.under hi hz0 hz1 hz2 rfl (by decide) v zs.length (zs.map (.int q)) hown ad ns.length c (ns.map (.int q)) (by simp)
   (fun j u hu=>by
    have hj:j<ns.length:=by have:=(List.getElem?_eq_some_iff.1 hu).1;simpa using this
    obtain⟨b,o,hbo,hcell⟩:=hc j hj;obtain rfl:=Option.some.inj hbo;rw[Addr.add_lit,hcell]
    simpa [hj] using hu)
   (ints_oneCell q ns) (by unfold maxLen;omega) (by have:=Nat.mul_le_mul (show zs.length+ns.length<=4294967296 by omega) hby;omega) hbase
  refine⟨v',w',hrun,by simpa [aX] using h1,h2,h4,?_,(Below.refl _ _).grown h2 hbase fun g hg=>(aX.lt hown g hg).1⟩;rw[h3];simp
 | none =>
  have hns:ns = []:=by
   rcases ns with _|⟨n,ns⟩
   ·rfl
   ·obtain⟨b,o,h,_⟩:=hc 0 (by simp);cases h
  subst hns;refine⟨v,w,?_,by simpa using hown,World.grownBy.refl _ _,.inl rfl,by simp,Below.refl _ _⟩;rcases hown.2 with ⟨rfl,h0⟩|⟨g,cap,cur,rfl,_,_,hnc,_⟩
  ·simp[Builtin.append_,run_underlying I.under,sizeOf,typeInfo,hi,Builtin.lenOf,Builtin.firstCells]
  ·simp[Builtin.append_,run_underlying I.under,sizeOf,typeInfo,hi,Builtin.lenOf,Builtin.firstCells,hnc,storeCells]

section
variable {P:Program} {t e:TypeId} {q:IntKind} {by':Nat} (I:eE P t e q by') {w:World} {o:Oper} {a:Act} {Q:Exit->Act->World->Prop} (s x:Operand)
 (ho:o.op = .call { callee:=.builtin .append,args:=#[s,x],argTypes:=#[t,t] }) (base:Nat) (v xv:Value) (zs ns:List Int) (hs:a.eval s=v) (hx:a.eval x=xv)
 (hown:aX w base e q v zs) (hr:Reads w q xv ns) (hby:by'<=8) (hlen:zs.length+ns.length<=4294967296) (hbase:base<=w.heap.size)
include I ho hs hx hown hr hby hlen hbase

theorem pC {K:Act->World->Prop}
  (h:∀v' w',aX w' base e q v' (zs++ns)->w.grownBy w' v.ownBlock->(v'.ownBlock=v.ownBlock\/v'.ownBlock=some w.heap.size)->(v' = .slice none 0 0 ↔ v = .slice none 0 0/\ns = [])->Below base w w'->K (a.put o.dst v') w'):o.wp P a w K Q:=by
 obtain⟨v',w',hrun,h1,h2,h3,h4,h5⟩:=nG I w o.type base v xv zs ns hown hr hby hlen hbase;unfold Oper.wp execOp;simp only[ho,resolve,invoke,builtin,Sem.run_bind,Sem.run_pure,Result.andThen_ok,List.map_toArray,List.map_cons,List.map_nil,hs,hx,hrun];exact h v' w' h1 h2 h3 h4 h5

theorem aG {ops:Array Oper}{rest:List Oper}(hgd:o.guard=none)
  (h:∀v' w',aX w' base e q v' (zs++ns)->w.grownBy w' v.ownBlock->(v'.ownBlock=v.ownBlock\/v'.ownBlock=some w.heap.size)->(v' = .slice none 0 0 ↔ v = .slice none 0 0/\ns = [])->Below base w w'->wpList P ops Q rest (a.put o.dst v') w') :
  wpList P ops Q (o::rest) a w :=
 wpList_plain hgd fun _ hK=>pC I s x ho base v xv zs ns hs hx hown hr hby hlen hbase fun v' w' h1 h2 h3 h4 h5=>hK _ _ (h v' w' h1 h2 h3 h4 h5)

end

theorem Reads.one (w:World)(q:IntKind)(z:Int)(t:TypeId):Reads (w.alloc (.cells #[.int q z] t)) q (.slice (some ⟨w.heap.size,0,none⟩) 1 1) [z]:=by
 refine⟨_,_,rfl,fun j hj=>⟨w.heap.size,0,rfl,?_⟩⟩;have:j=0:=by simpa using hj
 subst this;simp

theorem aX.shape {w:World}{base:Nat}{e:TypeId}{k:IntKind}{v:Value}{zs:List Int}(h:aX w base e k v zs):∃a c,v = .slice a zs.length c:=by
 rcases h.2 with ⟨rfl,h0⟩|⟨g,cap,cur,rfl,_⟩
 ·exact⟨none,0,by rw[h0]⟩
 ·exact⟨_,_,rfl⟩
theorem Reads.shape {w:World}{k:IntKind}{v:Value}{zs:List Int}(h:Reads w k v zs):∃a c,v = .slice a zs.length c:=let ⟨a,c,h,_⟩:=h;⟨a,c,h⟩
theorem aR {w:World}{p:Addr}{v:Value}(h:w.cell? p=some v)(o:Obj):(w.alloc o).cell? p=some v:=(Kept.alloc w o (fun _=>False)).cell h id
theorem Below.at {B:Nat}{w w':World}(hb:Below B w w'){p:Addr}{v:Value}(h:w.cell? p=some v)(hl:p.block<B):w'.cell? p=some v:=by rw[hb.cell hl];exact h
theorem aX.drew {w:World}{base:Nat}{e:TypeId}{k:IntKind}{v:Value}{zs:List Int}(h:aX w base e k v zs):aX w.drew base e k v zs:=h
theorem aX.lit {w:World}{base g:Nat}{e:TypeId}{k:IntKind}{zs:List Int}(h:w.heap[g]? = some (.cells (zs.map (.int k)).toArray e (0,0)))(hb:base<=g)(hm:zs.length<=4294967296) :
  aX w base e k (.slice (some ⟨g,0,none⟩) zs.length zs.length) zs :=
 ⟨by simp,.inr ⟨g,zs.length,_,rfl,hb,h,Nat.le_refl _,by unfold maxLen;omega,by simp,by rw[List.take_of_length_le (by simp)]⟩⟩
theorem aX.empty {w:World}{base g:Nat}{e:TypeId}{k:IntKind}(h:w.heap[g]? = some (.cells #[] e (0,0)))(hb:base<=g):aX w base e k (.slice (some ⟨g,0,none⟩) 0 0) []:=aX.lit (zs:=[]) h hb (by simp)
theorem aX.rN {w:World}{base:Nat}{e:TypeId}{k:IntKind}{v:Value}{zs:List Int}(h:aX w base e k v zs){a:Addr}(x:Value)(ha:a.block<base):aX (w.setCell a x) base e k v zs :=
 ownsRow_setCell_below h ha x
theorem iC {B:Nat}{a w:World}(h:Below B a w)(n:Nat):Below B a (w.drewN n):=h.trans ⟨rfl,rfl,rfl,Nat.le_refl _,fun _ _=>rfl⟩

theorem cso {w:World}{a b:Addr}{v:Value}(h:a≠b):(w.setCell a v).cell? b=w.cell? b:=World.cell?_setCell_other _ _ _ _ h
theorem fsc {w:World}{a b:Addr}{v:Value}:(w.setCell a v).frozen? b=w.frozen? b:=World.frozen?_setCell ..
theorem css {w:World}{a:Addr}{v u:Value}(h:w.cell? a=some u):(w.setCell a v).cell? a=some v:=World.cell?_setCell_same _ _ _ h

def lA (w:World)(b:Nat):Prop:=∀j x,w.cell? ⟨b,j,none⟩≠some (.int .u8 x)
theorem lA.kept {w w':World}{b:Nat}{S:Nat->Prop}(h:lA w b)(hk:Kept w w' S)(hl:b<w.heap.size)(hs:¬S b):lA w' b:=fun j x e=>h j x (by rw[<- World.cell?_of_block (a:=⟨b,j,none⟩) (hk.block b hl hs)];exact e)
theorem lA.set {w:World}{b:Nat}(h:lA w b)(a:Addr){u v:Value}(hc:w.cell? a=some u)(hv:∀x,v ≠ .int .u8 x):lA (w.setCell a v) b:=fun j x e=>by
 by_cases hab:(⟨b,j,none⟩:Addr)=a
 ·subst hab;rw[css hc]at e;exact hv x (Option.some.inj e)
 ·rw[World.cell?_setCell_other _ _ _ _ (Ne.symm hab)]at e;exact h j x e
theorem lA.alloc {w:World}{cs:Array Value}{t:TypeId}(h:∀x,Value.int .u8 x ∉ cs.toList):lA (w.alloc (.cells cs t)) w.heap.size:=fun j x e=>by
 have hb:(w.alloc (.cells cs t)).heap[w.heap.size]? = some (.cells cs t (0,0)):=heap_alloc_new _ _;have hc:cs[j]? = some (.int .u8 x):=by
  unfold World.cell? at e;simp only at e;rw[hb]at e
  simpa using e
 exact h x (Array.mem_toList_iff.2 (Array.mem_of_getElem? hc))
end Go.Proofs.Own
