/- For vltopens_law_holds. -/
import Derived.Test.YtjdglpcnkiioeaaGreatVob23
import Derived.Test.YtjdglpcnkiioeaaGreatVob31
set_option maxHeartbeats 16000000
set_option maxRecDepth 100000
namespace Go.Proofs.YtjdglpcnkiioeaaGreat
open Go.RowKit Go.Maps Go.Proofs.Own

theorem bQ.mid {A B:List aJ}{f:aJ}(h:bQ (A++f::B)):(∀g ∈ A,dS g.name f.name=true) /\ ∀g ∈ B,dS f.name g.name=true:=by
 obtain⟨_,h2,h3⟩:=List.pairwise_append.1 h;exact⟨fun g hg=>h3 g hg f List.mem_cons_self,(List.pairwise_cons.1 h2).1⟩
theorem wV {A B:List aJ}{f:aJ}(h:bQ (A++f::B)):aE f.name (A++f::B)=some f:=by
 obtain⟨h1,_⟩:=h.mid;unfold aE;rw[List.find?_append,List.find?_eq_none.2 (fun g hg=>by have:=mW (h1 g hg);simpa using this)];simp
theorem aED {A B:List aJ}{f:aJ}(h:bQ (A++f::B)):bH f.name (A++f::B)=A++B:=by
 obtain⟨h1,h2⟩:=h.mid;unfold bH;rw[List.filter_append,List.filter_cons];rw[List.filter_eq_self.2 (fun g hg=>by have:=mW (h1 g hg);simpa using this)];have hB:B.filter (fun g=>!decide (g.name=f.name))=B:=List.filter_eq_self.2 (fun g hg=>by have:=(mW (h2 g hg)).symm;simpa using this);rw[hB];simp
theorem aBg {f:aJ}:∀ {A B:List aJ},(∀g ∈ A,dS g.name f.name=true)->(∀g ∈ B,dS f.name g.name=true)->insFile f (A++B)=A++f::B
 | [],[],_,_=>rfl
 | [],b::B,_,h2=>by
  show insFile f (b::B)=_;rw[insFile,if_pos (h2 b List.mem_cons_self)];rfl
 | a::A,B,h1,h2=>by
  show insFile f (a::(A++B))=_;rw[insFile,aBo (h1 a List.mem_cons_self),if_neg (by decide),aBg (fun g hg=>h1 g (List.mem_cons_of_mem _ hg)) h2];rfl
theorem aIZ {A B:List aJ}{f f':aJ}(h:bQ (A++f::B))(hn:f'.name=f.name):bL f' (A++f::B)=A++f'::B:=by
 obtain⟨h1,h2⟩:=h.mid;unfold bL;rw[hn,aED h];exact aBg (by rw[hn];exact h1) (by rw[hn];exact h2)

theorem Bytes.qY {w w':World}{v:Value}{l:List Nat}{S:Nat->Prop}(h:Bytes w v l)(hk:Kept w w' S)(hs:l ≠ [] -> ∀b,v.ownBlock=some b -> ¬S b):Bytes w' v l:=by
 by_cases hl:l = []
 ·subst hl;exact⟨h.shape,by obtain⟨a,c,rfl,_⟩:=h.shape;exact Reads.nil _ _ _ _,h.lt,h.small⟩
 ·exact h.kept hk (hs hl)
theorem aG.look {w:World}{db mb tb:Nat}{D:aA}(h:aG w db mb tb D){n:ByteArray}{f:aJ}(hf:aE n D.files=some f)(hn:n.size<=maxLen) :
  ∃a c,(Instr.lookup 47 (.map (some mb)) (.string n) false).run Tryz.prog w = .ok (.agg #[.slice a f.all.length c,.int .i64 f.kept]) w/\dQ w db mb tb (.agg #[.slice a f.all.length c,.int .i64 f.kept]) f:=by
 obtain⟨vals,hm,hfs⟩:=h.fs;obtain⟨hfn,hfm⟩:=cK hf;have hfi:=hfs f hfm;obtain⟨a,c,hv,hB,hg⟩:=hfi;rw[hfn]at hv;obtain⟨v,ps,hrun,hR⟩:=World.ownsMap.lookup hm law Tryz.underlying47 (aIj w) (kU _ _ _ _) (cX hn);obtain⟨_,e2⟩:=mN hR;rw[dat_at,hf]at e2;simp only[Prod.mk.injEq,DataW.held.injEq]at e2;refine⟨a,c,by rw[hrun,<- e2.1,hv],a,c,rfl,hB,hg⟩


def gZ (d:Nat):Nat:=if d<10 then 48+d else 87+d
def hexs:Nat->Nat->List Nat
 | 0,_=>[]
 | k+1,n=>hexs k (n / 16) ++ [gZ (n % 16)]
def oY (n:Nat):List Nat:=if n<1\/1152921504606846976<=n then [] else 76::hexs 15 n
def aK (n:Nat):ByteArray:=bX (oY n)
def jX (c:Nat):Option Nat:=if 48<=c/\c<=57 then some (c-48) else if 97<=c/\c<=102 then some (c-87) else none
def hexF:List Nat->Nat->Option Nat
 | [],n=>some n
 | c::r,n=>match jX c with
  | none=>none
  | some d=>hexF r (n*16+d)
def bB (l:List Nat):Nat:=if l.length=16/\l.getD 0 0=76 then (hexF l.tail 0).getD 0 else 0
theorem aFH {d:Nat}(h:d<16):jX (gZ d)=some d:=by
 unfold jX gZ;by_cases h1:d<10
 ·rw[if_pos h1,if_pos (by omega),show 48+d-48=d by omega]
 ·rw[if_neg h1,if_neg (by omega),if_pos (by omega),show 87+d-87=d by omega]
theorem aII {d:Nat}(h:d<16):gZ d<256:=by unfold gZ;split<;>omega
theorem aFG {a b:Nat}(h:a<b):gZ a<gZ b:=by
 unfold gZ;split<;>split<;>omega
theorem jM:∀(k n:Nat),(hexs k n).length=k
 | 0,_=>rfl
 | k+1,n=>by simp[hexs,jM k]
theorem vR:∀(k n:Nat),∀c ∈ hexs k n,c<256
 | 0,_,c,h=>by cases h
 | k+1,n,c,h=>by
  rcases List.mem_append.1 h with h|h
  ·exact vR k _ c h
  ·obtain rfl:=List.mem_singleton.1 h;exact aII (Nat.mod_lt _ (by decide))
theorem oV:∀(l m:List Nat) (n:Nat),hexF (l++m) n=(hexF l n).bind (hexF m)
 | [],m,n=>rfl
 | c::r,m,n=>by
  show (match jX c with|none=>none|some d=>hexF (r++m) (n*16+d))=(match jX c with|none=>none|some d=>hexF r (n*16+d)).bind (hexF m);cases jX c with
  | none=>rfl
  | some d=>exact oV r m _
theorem aAp:∀(k n s:Nat),n<16 ^ k->hexF (hexs k n) s=some (s*16 ^ k+n)
 | 0,n,s,h=>by
  have:n=0:=by omega
  subst this;simp[hexs,hexF]
 | k+1,n,s,h=>by
  have hq:n / 16<16 ^ k:=by rw[Nat.pow_succ]at h;omega
  show hexF (hexs k (n / 16) ++ [gZ (n % 16)]) s=_;rw[oV,aAp k _ s hq];show (match jX (gZ (n % 16)) with|none=>none|some d=>hexF [] ((s*16 ^ k+n / 16)*16+d))=_;rw[aFH (Nat.mod_lt _ (by decide))];show some _=some _;rw[Nat.pow_succ,<- Nat.mul_assoc]
  congr 1
  omega
theorem jO {n:Nat}(h1:1<=n)(h2:n<1152921504606846976):oY n=76::hexs 15 n:=by
 unfold oY;rw[if_neg (by omega)]
theorem rT {n:Nat}(h1:1<=n)(h2:n<1152921504606846976):(oY n).length=16:=by
 rw[jO h1 h2,List.length_cons,jM]
theorem xL (n:Nat):∀c ∈ oY n,c<256:=by
 intro c hc;unfold oY at hc;split at hc
 ·cases hc
 ·rcases List.mem_cons.1 hc with rfl|hc
  ·decide
  ·exact vR _ _ c hc
theorem aD8 {n:Nat}(h1:1<=n)(h2:n<1152921504606846976):(aK n).size=16:=by
 unfold aK;rw[cH,rT h1 h2]
theorem fG (n:Nat):(aK n).size<=16:=by
 by_cases h:n<1\/1152921504606846976<=n
 ·unfold aK oY;rw[if_pos h];exact Nat.zero_le _
 ·rw[aD8 (by omega) (by omega)];exact Nat.le_refl _
theorem aDB {n:Nat}(h1:1<=n)(h2:n<1152921504606846976):bB (oY n)=n:=by
 unfold bB;rw[if_pos ⟨rT h1 h2,by rw[jO h1 h2];rfl⟩,jO h1 h2];show (hexF (hexs 15 n) 0).getD 0=n
 rw [aAp 15 n 0 (by have : (16 : Nat) ^ 15 = 1152921504606846976 := by decide
                    omega)]
 simp
theorem uK {n:Nat}(h1:1<=n)(h2:n<1152921504606846976):bB (aP (aK n))=n:=by
 unfold aK;rw[dO (xL n),aDB h1 h2]
def natsLt:List Nat->List Nat->Bool
 | [],[]=>false
 | [],_::_=>true
 | _::_,[]=>false
 | a::r,b::s=>decide (a<b) || (decide (a=b)&&natsLt r s)
theorem wH:∀ {l m:List Nat},(∀c ∈ l,c<256)->(∀c ∈ m,c<256)->bytesBefore (l.map UInt8.ofNat) (m.map UInt8.ofNat)=natsLt l m
 | [],[],_,_=>rfl
 | [],_::_,_,_=>rfl
 | _::_,[],_,_=>rfl
 | a::r,b::s,hl,hm=>by
  have ha:=hl a (List.mem_cons_self ..);have hb:=hm b (List.mem_cons_self ..);have ih:=wH (l:=r) (m:=s) (fun c hc=>hl c (List.mem_cons_of_mem _ hc)) (fun c hc=>hm c (List.mem_cons_of_mem _ hc));show (decide (UInt8.ofNat a<UInt8.ofNat b) || ((UInt8.ofNat a==UInt8.ofNat b)&&bytesBefore (r.map UInt8.ofNat) (s.map UInt8.ofNat)))=(decide (a<b) || (decide (a=b)&&natsLt r s));have e1:(UInt8.ofNat a).toNat=a:=by simp;omega
  have e2:(UInt8.ofNat b).toNat=b:=by simp;omega
  have h1:decide (UInt8.ofNat a<UInt8.ofNat b)=decide (a<b):=by
   rw[decide_eq_decide,UInt8.lt_iff_toNat_lt,e1,e2]
  have h2:(UInt8.ofNat a==UInt8.ofNat b)=decide (a=b):=by
   rw[Bool.eq_iff_iff,beq_iff_eq,decide_eq_true_eq,<- UInt8.toNat_inj,e1,e2]
  rw[ih,h1,h2]
theorem aDO (p:List Nat)(l m:List Nat):natsLt (p++l) (p++m)=natsLt l m:=by
 induction p with
 | nil=>rfl
 | cons a r ih=>simp[natsLt,ih]
theorem xM:∀ {l m:List Nat}(x y:List Nat),l.length=m.length->natsLt l m=true->natsLt (l++x) (m++y)=true
 | [],[],_,_,_,h=>by cases h
 | a::r,b::s,x,y,hl,h=>by
  simp only[natsLt,List.cons_append,Bool.or_eq_true,Bool.and_eq_true,decide_eq_true_eq]at h ⊢;rcases h with h|⟨h1,h2⟩
  ·exact .inl h
  ·exact .inr ⟨h1,xM x y (by simpa using hl) h2⟩
 | [],_::_,_,_,hl,_=>by simp at hl
 | _::_,[],_,_,hl,_=>by simp at hl
theorem aAt:∀(k a b:Nat),a<b->b<16 ^ k->natsLt (hexs k a) (hexs k b)=true
 | 0,a,b,h,hb=>by simp at hb;omega
 | k+1,a,b,h,hb=>by
  show natsLt (hexs k (a / 16) ++ [gZ (a % 16)]) (hexs k (b / 16) ++ [gZ (b % 16)])=true;by_cases he:a / 16=b / 16
  ·rw[he,aDO];have:=aFG (a:=a % 16) (b:=b % 16) (by omega);simp[natsLt,this]
  ·exact xM _ _ (by rw[jM,jM]) (aAt k _ _ (by omega) (by rw[Nat.pow_succ]at hb;omega))
theorem aDN {a b:Nat}(h:a<b)(h1:1<=a)(h2:b<1152921504606846976):dS (aK a) (aK b)=true:=by
 have e:∀n,(aK n).data.toList=(oY n).map UInt8.ofNat:=fun n=>rfl;unfold dS;rw[e,e,wH (xL a) (xL b),jO h1 (by omega),jO (by omega) h2]
 have := aAt 15 a b h (by have : (16 : Nat) ^ 15 = 1152921504606846976 := by decide
                          omega)
 simp[natsLt,this]
end Go.Proofs.YtjdglpcnkiioeaaGreat
namespace Go.Proofs.YtjdglpcnkiioeaaGreat
open Go.Lib (hid)
open Go.RowKit Go.Maps Go.Proofs.Own

theorem aJU:eQ Tryz.prog 165 168 3 64:=by
 obtain⟨i0,hi,hz0,hz1,hz2⟩:=info_parts (show (Tryz.prog.info? 168).map (fun i=>(i.zero,i.size,i.bytes))=some (some (.agg #[.string ⟨#[]⟩,.slice none 0 0,.slice none 0 0]),3,64) by kernel_rfl);exact⟨Tryz.underlying165,⟨i0,_,hi,hz0,hz1,hz2,rfl⟩,by decide,by decide⟩
def fiV (p:aJ × Value × Value):List Value:=[.string p.1.name,p.2.1,p.2.2]
structure vG (w:World)(B:Nat)(p:aJ × Value × Value):Prop where
 k:cC w B 5 .u8 p.2.1 (ints (p.1.all.take p.1.kept))
 l:cC w B 5 .u8 p.2.2 (ints (p.1.all.drop p.1.kept))
theorem vG.kept {w w':World}{B:Nat}{p:aJ × Value × Value}{S:Nat->Prop}(h:vG w B p)(hk:Kept w w' S)(h1:∀b,p.2.1.ownBlock=some b -> ¬S b)(h2:∀b,p.2.2.ownBlock=some b -> ¬S b):vG w' B p:=⟨h.k.kept hk h1,h.l.kept hk h2⟩
theorem vG.below {w w':World}{B:Nat}{p:aJ × Value × Value}(h:vG w B p)(hb:Below w.heap.size w w'):vG w' B p:=⟨h.k.below hb,h.l.below hb⟩
def FiA (v:Value)(p:aJ × Value × Value):Prop:=∀b,p.2.1.ownBlock=some b\/p.2.2.ownBlock=some b->v.ownBlock≠some b
theorem aFu (w:World)(p:aJ × Value × Value):∀j u,(fiV p)[j]? = some u->(w.alloc (.cells #[.string p.1.name,p.2.1,p.2.2] 168)).cell? ⟨w.heap.size,j,none⟩=some u:=by
 intro j u hu
 match j,hu with
 | 0,hu=>obtain rfl:Value.string p.1.name=u:=Option.some.inj hu;go_cell
 | 1,hu=>obtain rfl:p.2.1=u:=Option.some.inj hu;go_cell
 | 2,hu=>obtain rfl:p.2.2=u:=Option.some.inj hu;go_cell
theorem aIB {p:aJ × Value × Value}(h1:p.2.1.oneCell'=true)(h2:p.2.2.oneCell'=true):∀u ∈ fiV p,u.oneCell'=true:=by
 intro u hu;simp only[fiV,List.mem_cons,List.not_mem_nil,or_false]at hu;rcases hu with rfl|rfl|rfl
 ·rfl
 ·exact h1
 ·exact h2
theorem aIC {L:List aJ}(h:bQ L){j:Nat}(hj:j<L.length):aE L[j].name L=some L[j]:=by
 have e:L.take j++L[j]::L.drop (j+1)=L:=by rw[<- List.drop_eq_getElem_cons hj,List.take_append_drop]
 generalize L[j]=f at e ⊢;rw[<- e]at h ⊢;exact wV h
theorem aG.byt {w:World}{db mb tb:Nat}{D:aA}(h:aG w db mb tb D):∀f ∈ D.files,(∀c ∈ f.all,c<256)/\f.all.length<=2097152:=by
 obtain⟨vals,_,hfs⟩:=h.fs;intro f hf;obtain⟨_,_,_,hB,_⟩:=hfs f hf;exact⟨hB.lt,hB.small⟩
structure FiI (w1:World)(L:List aJ)(j:Nat)(v:Value)(P:List (aJ × Value × Value))(wr:World):Prop where
 fst:P.map (·.1)=L.take j
 own:dU wr w1.heap.size 168 3 v (P.map fiV)
 each:∀p ∈ P,vG wr w1.heap.size p/\FiA v p
 bel:Below w1.heap.size w1 wr
theorem FiI.next {w1 wr wm w':World}{L:List aJ}{j:Nat}{v v' k l:Value}{P:List (aJ × Value × Value)}(h:FiI w1 L j v P wr)(hj:j<L.length)(hb:Below wr.heap.size wr wm)
  (hk:cC wm wr.heap.size 5 .u8 k (ints (L[j].all.take L[j].kept))) (hl:cC wm wr.heap.size 5 .u8 l (ints (L[j].all.drop L[j].kept)))
  (ho:dU w' w1.heap.size 168 3 v' (P.map fiV ++ [fiV (L[j],k,l)])) (hg:wm.grownBy w' v.ownBlock) (hat:v'.ownBlock=v.ownBlock\/v'.ownBlock=some wm.heap.size) (hB:Below w1.heap.size wm w'):FiI w1 L (j+1) v' (P ++ [(L[j],k,l)]) w':=by
 have hK:=Kept.cJ hg;have hn:vG wm w1.heap.size (L[j],k,l):=⟨hk.lower fun b e=>Nat.le_trans h.bel.size (hk.lt b e).1,hl.lower fun b e=>Nat.le_trans h.bel.size (hl.lt b e).1⟩;have hlt:∀p b,vG wm w1.heap.size p->(p.2.1.ownBlock=some b\/p.2.2.ownBlock=some b)->b<wm.heap.size:=fun p b hp e=>e.elim (fun e=>(hp.k.lt b e).2) fun e=>(hp.l.lt b e).2;have hA:FiA v (L[j],k,l):=fun b e ev=>by
  have h1:=(h.own.lt b ev).2;rcases e with e|e
  ·have:=(hk.lt b e).1;omega
  ·have:=(hl.lt b e).1;omega
 refine⟨by rw[List.map_append,h.fst,List.take_succ_eq_append_getElem hj];rfl,by rw[List.map_append];exact ho,fun p hp=>?_,(h.bel.trans (hb.mono h.bel.size)).trans hB⟩;have hall:vG wm w1.heap.size p/\FiA v p:=by
  rcases List.mem_append.1 hp with hp|hp
  ·exact⟨(h.each p hp).1.below hb,(h.each p hp).2⟩
  ·obtain rfl:=List.mem_singleton.1 hp;exact⟨hn,hA⟩
 refine⟨hall.1.kept hK (fun b e e'=>hall.2 b (.inl e) e') (fun b e e'=>hall.2 b (.inr e) e'),fun b e ev=>?_⟩;rcases hat with hat|hat
 ·exact hall.2 b e (hat ▸ ev)
 ·rw[hat]at ev;have:=hlt p b hall.1 e;have:=Option.some.inj ev;omega

theorem aDq (db mb tb:Nat)(D:aA)(w:World)(h:aG w db mb tb D)(hw:DWf D) :
  Calls Tryz.prog 92 #[.pointer (some ⟨db,0,none⟩)] w fun e w'=>∃v,e = .returned v /\ ∃P:List (aJ × Value × Value),P.map (·.1)=D.files/\bJ w' 3 v (P.map fiV)/\(∀p ∈ P,vG w' w.heap.size p)/\Below w.heap.size w w':=by
 have H:=hid h;have HW:=hid hw;have many:=hw.many;clear h hw;go_enter Tryz.func92,Tryz.ntmps92;go_wp2_with fail;refine(aJV db mb tb D _ H.out HW.out).mono ?_;rintro e w1 ⟨nv,rfl,hnv,hb1,hno⟩;have NV:=hid hnv;have B1:=hid hb1;have H1:=hid (H.out.below hb1);obtain⟨an,cn,rfl,_⟩:=hnv;have HNL:Hid ((List.map (fun f:aJ=>f.name) D.files).length=D.files.length):=hid (List.length_map _);rw[HNL.out]at NV ⊢;clear hb1 hno;go_wp2_with fail
 go_loopw [2,9] (fun lv y wr=>∃j P,j<=D.files.length/\y = .int .i64 j/\FiI w1 D.files j lv P wr) (fun _ y _=>D.files.length-(intOf y).toNat)
 case atStart=>exact⟨0,[],Nat.zero_le _,rfl,rfl,dU.nil _ _ _ _,nofun,Below.refl _ _⟩
 case round =>
  obtain⟨j,P,hj,rfl,hi⟩:=hrel;have I:=hid hi;obtain⟨la,lc,rfl⟩:=hi.own.shape;by_cases hlt:j<D.files.length
  ·have HNM:Hid (∃b o,an=some ⟨b,o,none⟩/\wr.cell? ⟨b,o+j,none⟩=some (.string (D.files[j]).name)):=hid (by
    obtain⟨a',c',e,hc⟩:=NV.out.below I.out.bel;obtain⟨b,o,e1,e2⟩:=hc j (by rw[List.length_map];exact hlt);injection e with e3
    exact⟨b,o,e3.trans e1,by rw[e2,List.getElem_map]⟩)
   obtain⟨nb,no,rfl,hnc⟩:=HNM.out;have HDr:=hid (H1.out.below I.out.bel);have HRS:Hid (bQ D.files):=hid (by obtain⟨_,hm,_⟩:=HDr.out.fs;exact hm.rising);have HEA:Hid ((D.files[j]).name.size<=16/\(D.files[j]).kept<=(D.files[j]).all.length):=hid (HW.out.each _ (List.getElem_mem hlt));obtain⟨a,c,hrun,hfi⟩:=HDr.out.look (aIC HRS.out hlt) (by have:=HEA.out.1;unfold maxLen;omega);have NX:∀(wm w':World) (v' k l:Value),Below wr.heap.size wr wm->cC wm wr.heap.size 5 .u8 k (ints ((D.files[j]).all.take (D.files[j]).kept))->cC wm wr.heap.size 5 .u8 l (ints ((D.files[j]).all.drop (D.files[j]).kept))->dU w' w1.heap.size 168 3 v' (P.map fiV ++ [fiV (D.files[j],k,l)])->wm.grownBy w' _->(v'.ownBlock=_\/v'.ownBlock=some wm.heap.size)->Below w1.heap.size wm w'->FiI w1 D.files (j+1) v' (P ++ [(D.files[j],k,l)]) w':=fun wm w' v' k l x1 x2 x3 x4 x5 x6 x7=>I.out.next hlt x1 x2 x3 x4 x5 x6 x7;have NXH:=hid NX;clear NX hi;have c0:=HDr.out.c0;have ldb:db<wr.heap.size:=HDr.out.lt;generalize D.files[j]=f at *
   have HB0:Hid (Bytes wr (.slice a f.all.length c) f.all):=hid (by obtain⟨a2,c2,e1,e2,_⟩:=hfi;cases e1;exact e2);obtain⟨v1,hB1,hcut1⟩:=HB0.out.aFh Tryz.u8s f.kept HEA.out.2;obtain⟨v2,hB2,hcut2⟩:=HB0.out.aFi Tryz.u8s f.kept HEA.out.2;have HL1:Hid ((ints (f.all.take f.kept)).length<=2097152):=hid (by rw[aS];exact hB1.small);have HL2:Hid ((ints (f.all.drop f.kept)).length<=2097152):=hid (by rw[aS];exact hB2.small);obtain⟨n,hn⟩:∃n,f.all.length=n:=⟨_,rfl⟩;have HN:=hid hn;rw[hn]at hrun hcut1 hcut2;have B3:Hid (Below wr.heap.size wr (wr.alloc (.cells #[.slice a n c,.int .i64 f.kept] 134))):=hid ((Below.refl _ _).alloc (Nat.le_refl _) _);have HB1:=hid (hB1.alloc (.cells #[.slice a n c,.int .i64 f.kept] 134));have HB2:=hid (hB2.alloc (.cells #[.slice a n c,.int .i64 f.kept] 134));have OW:=hid I.out.own;have hlen:(P.map fiV).length=j:=by
    have h1:=congrArg List.length I.out.fst;rw[List.length_map,List.length_take]at h1;rw[List.length_map];omega
   have HLE:Hid ((P.map fiV).length<=4294967296):=hid (by omega);have IB:=hid I.out.bel;rw[hlen]at OW NXH ⊢;have j0:(0:Int)<=(j:Int):=by omega
   have j1:(j:Int)<(D.files.length:Int):=by omega
   clear hfi hB1 hB2 hn hlen I;go_wp2_with fail;have X3':((wr.alloc (.cells #[.slice a n c,.int .i64 f.kept] 134)).cell? ⟨wr.heap.size,0,none⟩=some (.slice a n c)/\(wr.alloc (.cells #[.slice a n c,.int .i64 f.kept] 134)).cell? ⟨wr.heap.size,1,none⟩=some (.int .i64 f.kept)):=⟨by go_cell,by go_cell⟩;have L3':wr.heap.size<(wr.alloc (.cells #[.slice a n c,.int .i64 f.kept] 134)).heap.size:=by simp
   generalize World.alloc wr _=w3 at *
   have X3:=hid X3';have L3:=L3';clear X3' L3';refine aU [0,0,0,4,0,16,60,124,0,256,0,1024,3840,8188,16382,32766,65535,131071] 128 (fun w'=>w'.cell? ⟨wr.heap.size,0,none⟩=some (.slice a n c)/\w'.cell? ⟨wr.heap.size,1,none⟩=some (.int .i64 f.kept)) (by kernel_rfl) ?_;refine aB [0,1,2,3,4,5,6,8,9,10,11,12] (by kernel_rfl) (L:=bm 18 8063) (by kernel_rfl) (f':=6) rfl (fun _ _ _ _ h=>h) (fun w o h=>((aR.cell _ _).and (aR.cell _ _)).alloc h o) (.inr (by exact X3.out)) ?_;simp only[sF,sL]
   iterate 12 (first|(refine aW _ (by rfl) (fun w' hs=>by obtain⟨y0,y1⟩:=hs;go_simp;try with_reducible rfl) rfl ?_;simp only[Act.put,sA])|(refine aC _ (by rfl) (fun w'=>by go_simp;try with_reducible rfl) ?_;simp only[Act.put,sA]))
   refine aI ?_;refine aM 7 (by kernel_rfl) (L:=bm 18 8191) (by kernel_rfl) ?_;simp only[sL];go_wp2_with fail;refine(nJ _ _ _ (by exact HB1.out.rd) HL1.out).mono ?_;rintro e u4 ⟨k1,rfl,hk1,hb4⟩;have B4:Hid (Below w3.heap.size w3 u4):=hid (by first|exact hb4|exact((Below.refl _ _).drew).trans hb4);have K1:Hid (cC u4 w3.heap.size 5 .u8 k1 (ints (f.all.take f.kept))):=hid (by exact hk1);have L4:Hid (wr.heap.size<u4.heap.size):=hid (Nat.lt_of_lt_of_le L3 B4.out.size);have X4:Hid (u4.cell? ⟨wr.heap.size,0,none⟩=some (.slice a n c)/\u4.cell? ⟨wr.heap.size,1,none⟩=some (.int .i64 f.kept)):=hid (by exact⟨Below.at B4.out X3.out.1 L3,Below.at B4.out X3.out.2 L3⟩);obtain⟨k1a,k1c,rfl⟩:=hk1.shape;clear hk1 hb4;go_wp2_with fail;refine aH (fun _=>X4.out) ?_;refine aM 13 (by kernel_rfl) (L:=bm 18 16383) (by kernel_rfl) ?_;simp only[sL];go_wp2_with fail;refine(nJ _ _ _ (by exact HB2.out.rd.below B4.out) HL2.out).mono ?_;rintro e u5 ⟨k2,rfl,hk2,hb5⟩;have B5:Hid (Below u4.heap.size u4 u5):=hid (by first|exact hb5|exact((Below.refl _ _).drew).trans hb5);have K2:Hid (cC u5 u4.heap.size 5 .u8 k2 (ints (f.all.drop f.kept))):=hid (by exact hk2);obtain⟨k2a,k2c,rfl⟩:=hk2.shape;have HBS:Hid (∀o,w1.heap.size<=(u5.alloc o).heap.size):=hid (fun o=>by have h1:=IB.out.size;have h2:=B3.out.size;have h3:=B4.out.size;have h4:=B5.out.size;simp only[World.size_alloc];omega);clear hk2 hb5;go_wp2_with fail;refine aH nofun ?_;refine aB [14] (by kernel_rfl) (L:=bm 18 32767) (by kernel_rfl) (f':=3) rfl (fun _ _ _ _ h=>h) (fun w o h=>((aR.cell _ _).and (aR.cell _ _)).alloc h o) (.inl (by kernel_rfl)) ?_;simp only[sF,sL]
   iterate 1 (refine aC _ (by rfl) (fun w'=>by go_simp;try with_reducible rfl) ?_;simp only[Act.put,sA])
   refine aI ?_;refine aM 15 (by kernel_rfl) (L:=bm 18 65535) (by kernel_rfl) ?_;simp only[sL];go_wp2_with fail;refine aH nofun ?_;refine aM 16 (by kernel_rfl) (L:=bm 18 131071) (by kernel_rfl) ?_;simp only[sL];refine fA aJU _ _ rfl w1.heap.size _ (P.map fiV) _ (fiV (f,.slice k1a (ints (f.all.take f.kept)).length k1c,.slice k2a (ints (f.all.drop f.kept)).length k2c)) rfl rfl (by exact(OW.out.below B3.out).below ((B4.out.trans (B5.out.mono B4.out.size)).trans (Below.refl _ _)) |>.alloc _) rfl (by exact aFu _ _) (aIB rfl rfl) (by exact HLE.out) (by exact HBS.out _) rfl ?_;intro v7 w7 ho7 hg7 hat7 hb7;have N7:=hid (NXH.out _ _ _ _ _ (((B3.out.trans (B4.out.mono B3.out.size)).trans (B5.out.mono (Nat.le_trans B3.out.size B4.out.size))).alloc (by have h2:=B3.out.size;have h3:=B4.out.size;have h4:=B5.out.size;omega) _) (((K1.out.lower fun b e=>Nat.le_trans B3.out.size (K1.out.lt b e).1).below B5.out).alloc _) ((K2.out.lower fun b e=>Nat.le_trans B3.out.size (Nat.le_trans B4.out.size (K2.out.lt b e).1)).alloc _) ho7 hg7 hat7 hb7);clear ho7 hg7 hat7 hb7;go_wp2_with fail;refine aH nofun ?_;refine aB [17] (by kernel_rfl) (L:=bm 18 262143) (by kernel_rfl) (f':=0) rfl (fun _ _ _ _ h=>h) (fun w o h=>((aR.cell _ _).and (aR.cell _ _)).alloc h o) (.inl (by kernel_rfl)) ?_;simp only[sF,sL]
   iterate 1 (refine aC _ (by rfl) (fun w'=>by go_simp;try with_reducible rfl) ?_;simp only[Act.put,sA])
   refine aI ?_;refine bC (by kernel_rfl) ?_;go_wp2_with fail
   go_roundw
   case rel=>exact⟨j+1,_,by omega,by first|rfl|go_num,by first|exact N7.out|exact N7.out.drew⟩
   case measure=>simp[intOf];omega
  ·have hje:j=D.files.length:=by omega
   subst hje;have hfst:=I.out.fst;rw[List.take_length]at hfst;have j1:¬(D.files.length:Int)<(D.files.length:Int):=by omega
   clear hi;go_wp2_with fail;go_ret;have hsz:=B1.out.size;have HO:=bJ.gH I.out.own;rw[List.length_map]at HO;refine⟨.slice la P.length lc,rfl,P,hfst,HO,fun p1 p2 p3 hp=>⟨?_,?_⟩,B1.out.trans (I.out.bel.mono hsz)⟩
   ·exact(I.out.each _ hp).1.k.lower fun b e=>Nat.le_trans hsz ((I.out.each _ hp).1.k.lt b e).1
   ·exact(I.out.each _ hp).1.l.lower fun b e=>Nat.le_trans hsz ((I.out.each _ hp).1.l.lt b e).1
