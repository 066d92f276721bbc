/- For vltopens_law_holds. -/
import Derived.Maps.Ext
import Derived.Test.YtjdglpcnkiioeaaGreatVob9
set_option maxHeartbeats 16000000
namespace Go.Proofs.YtjdglpcnkiioeaaGreat
open Go.RowKit Go.Maps Go.Proofs.Own Go.ChangeMaps

structure aJ where
 name:ByteArray
 all:List Nat
 kept:Nat
def iJ (n:ByteArray):Lit:=.string n.data.toList
def dS (a b:ByteArray):Bool:=bytesBefore a.data.toList b.data.toList
def insFile (f:aJ):List aJ->List aJ
 | []=>[f]
 | g::r=>if dS f.name g.name then f::g::r else g::insFile f r
def bH (n:ByteArray)(L:List aJ):List aJ:=L.filter fun g=>!(decide (g.name=n))
def bL (f:aJ)(L:List aJ):List aJ:=insFile f (bH f.name L)
def aE (n:ByteArray)(L:List aJ):Option aJ:=L.find? fun g=>decide (g.name=n)

theorem aHe {a b:ByteArray}(h:iJ a=iJ b):a=b:=by
 cases a;cases b;simp only[iJ,Lit.string.injEq]at h
 congr
 exact Array.toList_inj.1 h
theorem gS (a b:ByteArray):(iJ a).sameKey (iJ b)=decide (a=b):=by
 by_cases h:a=b
 ·subst h;simp[iJ,Lit.sameKey]
 ·rw[decide_eq_false h];exact Maps.sameKey_ne fun e=>h (aHe e)
def ent (vals:ByteArray->Value)(f:aJ):Lit × DataW Value:=(iJ f.name,.held (vals f.name))
def dat (vals:ByteArray->Value)(L:List aJ):DataW Value:=.map (L.map (ent vals))
def upd (vals:ByteArray->Value)(n:ByteArray)(v:Value):ByteArray->Value:=fun m=>if m=n then v else vals m
theorem aC7 (vals:ByteArray->Value)(n:ByteArray)(v:Value):upd vals n v n=v:=if_pos rfl
theorem aAX (vals:ByteArray->Value){n m:ByteArray}(v:Value)(h:m≠n):upd vals n v m=vals m:=if_neg h
theorem wT (vals:ByteArray->Value)(n:ByteArray)(L:List aJ):(L.map (ent vals)).filter (fun p=>!p.1.sameKey (iJ n))=(bH n L).map (ent vals):=by
 unfold bH;rw[List.filter_map]
 congr 1
 refine List.filter_congr fun f _=>?_;simp only[Function.comp,ent,gS]
theorem aIA (vals:ByteArray->Value)(n:ByteArray)(v:Value)(L:List aJ):(bH n L).map (ent (upd vals n v))=(bH n L).map (ent vals):=by
 refine List.map_congr_left fun f hf=>?_;have h:f.name≠n:=by
  have:=(List.mem_filter.1 hf).2
  simpa using this
 simp only[ent,aAX vals v h]
theorem xB (vals:ByteArray->Value)(f:aJ):∀L:List aJ,DataW.insert (ent vals f) (L.map (ent vals))=(insFile f L).map (ent vals)
 | []=>rfl
 | g::r=>by
  have e:(ent vals f).1.before (ent vals g).1=dS f.name g.name:=rfl;rw[List.map_cons,DataW.insert,e,insFile];split
  ·rfl
  ·rw[xB vals f r];rfl
theorem aIw (vals:ByteArray->Value)(f:aJ)(v:Value)(L:List aJ):(dat vals L).put (iJ f.name) (.held v)=dat (upd vals f.name v) (bL f L):=by
 unfold dat bL DataW.put;simp only;rw[wT,<- aIA vals f.name v,<- xB];simp only[ent,aC7]
theorem aEC (vals:ByteArray->Value)(n:ByteArray)(L:List aJ):(dat vals L).del (iJ n)=dat vals (bH n L):=by
 unfold dat DataW.del;simp only;rw[wT]
theorem aA8 (vals:ByteArray->Value)(n:ByteArray)(L:List aJ):Maps.has (dat vals L) (iJ n)=(aE n L).isSome:=by
 unfold dat aE;rw[Maps.has_eq,List.any_map]
 induction L with
 | nil=>rfl
 | cons f L ih =>
  rw[List.any_cons,List.find?_cons,ih];simp only[Function.comp,ent,gS];cases decide (f.name=n)<;>rfl
theorem dat_at (vals:ByteArray->Value)(n:ByteArray)(z:DataW Value)(L:List aJ):(dat vals L).atKey (iJ n) z=match aE n L with|some _=>.held (vals n)|none=>z:=by
 unfold dat aE DataW.atKey;simp only
 induction L with
 | nil=>rfl
 | cons f L ih =>
  rw[List.map_cons,List.find?_cons,List.find?_cons];simp only[ent,gS];by_cases h:f.name=n
  ·simp[h]
  ·simp only[decide_eq_false h];exact ih
theorem mP (vals:ByteArray->Value)(L:List aJ):Maps.size (dat vals L)=L.length:=by
 unfold dat;rw[Maps.size_eq,List.length_map]
theorem cK {n:ByteArray}{L:List aJ}{f:aJ}(h:aE n L=some f):f.name=n/\f ∈ L:=⟨by have:=List.find?_some h;simpa using this,List.mem_of_find?_eq_some h⟩
theorem aBl {f g:aJ}:∀ {L:List aJ},g ∈ insFile f L ↔ g=f\/g ∈ L
 | []=>by simp[insFile]
 | x::r=>by
  rw[insFile];split
  ·simp
  ·rw[List.mem_cons,aBl (L:=r),List.mem_cons];constructor
   ·rintro(h|h|h)
    ·exact .inr (.inl h)
    ·exact .inl h
    ·exact .inr (.inr h)
   ·rintro(h|h|h)
    ·exact .inr (.inl h)
    ·exact .inl h
    ·exact .inr (.inr h)
theorem jE {n:ByteArray}{g:aJ}{L:List aJ}:g ∈ bH n L ↔ g ∈ L/\g.name≠n:=by
 unfold bH;rw[List.mem_filter];simp
theorem kF {f g:aJ}{L:List aJ}:g ∈ bL f L ↔ g=f\/(g ∈ L/\g.name≠f.name):=by
 unfold bL;rw[aBl,jE]

def aDk (v:Value):Prop:=∃a n c k,v = .agg #[.slice a n c,.int .i64 k]
noncomputable def gW (v:Value):Option (DataW Value × List MemPlace):=@ite _ (aDk v) (Classical.propDecidable _) (some (.held v,[])) none
theorem kU (a:Option Addr)(n c:Nat)(k:Int):gW (.agg #[.slice a n c,.int .i64 k])=some (.held (.agg #[.slice a n c,.int .i64 k]),[]):=if_pos ⟨_,_,_,_,rfl⟩
theorem mN {v:Value}{y:DataW Value × List MemPlace}(h:gW v=some y):aDk v/\y=(.held v,[]):=by
 unfold gW at h;by_cases hc:aDk v
 ·rw[if_pos hc]at h;cases h;exact⟨hc,rfl⟩
 ·rw[if_neg hc]at h;cases h

def gT (w:World)(mb:Nat)(vals:ByteArray->Value)(L:List aJ):Prop:=w.ownsMap Tryz.prog 9 gW mb L.length (dat vals L)
theorem pB {w:World}{mb n:Nat}{vals:ByteArray->Value}{L:List aJ}(h:w.ownsMap Tryz.prog 9 gW mb n (dat vals L)):gT w mb vals L:=by
 obtain⟨es,clock,hb,F,_,hD⟩:=h;refine⟨es,clock,hb,F,?_,hD⟩;have h1:Maps.size (dat vals L)=es.size:=by rw[hD];simp[Maps.size,length_sorted]
 rw[mP]at h1;omega
theorem gT.lt {w:World}{mb:Nat}{vals:ByteArray->Value}{L:List aJ}(h:gT w mb vals L):mb<w.heap.size:=World.ownsMap.lt h
theorem gT.kept {w w':World}{mb:Nat}{vals:ByteArray->Value}{L:List aJ}{S:Nat->Prop}(h:gT w mb vals L)(hk:Kept w w' S)(hs:¬S mb):gT w' mb vals L:=by
 have hl:=h.lt;obtain⟨es,clock,hb,F,hn,hD⟩:=h;exact⟨es,clock,by rw[hk.block mb hl hs];exact hb,F,hn,hD⟩
theorem gT.below {w w':World}{mb:Nat}{vals:ByteArray->Value}{L:List aJ}(h:gT w mb vals L)(hb:Below w.heap.size w w'):gT w' mb vals L :=
 h.kept (Kept.aL hb (S:=fun _=>False) fun k h1 h2=>by omega) fun h=>h
theorem Kept.tO {w w':World}{b:Nat}(h:w.mapTurned w' b):Kept w w' (fun k=>k=b):=(Kept.cJ h.grown).mono fun _k _ e=>(Option.some.inj e).symm
theorem law:Keyed Tryz.prog 9:=string_keyed Tryz.underlying9
theorem cX {n:ByteArray}(h:n.size<=maxLen):keyOf Tryz.prog 9 (.string n)=some (iJ n):=by simp[keyOf,Tryz.underlying9,mapKey,h,iJ]
theorem aIj (w:World):(zeroValue 134).run Tryz.prog w = .ok (.agg #[.slice none 0 0,.int .i64 0]) w:=by kernel_rfl
end Go.Proofs.YtjdglpcnkiioeaaGreat
namespace Go.Proofs.YtjdglpcnkiioeaaGreat
open Go.Lib (hid)
open Go.RowKit Go.Maps Go.Proofs.Own

structure aA where
 room:Int
 files:List aJ
 down:Bool
 armed:Int
 steps:Int

def dQ (w:World)(db mb tb:Nat)(v:Value)(f:aJ):Prop :=
 ∃a c,v = .agg #[.slice a f.all.length c,.int .i64 f.kept]/\Bytes w (.slice a f.all.length c) f.all/\(f.all = [] \/ ∃g,(Value.slice a f.all.length c).ownBlock=some g/\g≠db/\g≠mb/\g≠tb)
def aZ (db mb tb:Nat):Nat->Prop:=fun k=>k=db\/k=mb\/k=tb
theorem dQ.kept {w w':World}{db mb tb:Nat}{v:Value}{f:aJ}(h:dQ w db mb tb v f)(hk:Kept w w' (aZ db mb tb)):dQ w' db mb tb v f:=by
 obtain⟨a,c,h1,h2,h3⟩:=h;refine⟨a,c,h1,?_,h3⟩;rcases h3 with h3|⟨g,hg,n1,n2,n3⟩
 ·have hs:=h2.shape;rw[h3]at h2 ⊢;exact⟨h2.shape,Reads.nil _ _ _ _,h2.lt,h2.small⟩
 ·exact h2.kept hk fun k e=>by
   rw[hg]at e;cases e;rintro(e|e|e)
   ·exact n1 e
   ·exact n2 e
   ·exact n3 e
theorem dQ.below {w w':World}{db mb tb:Nat}{v:Value}{f:aJ}(h:dQ w db mb tb v f)(hb:Below w.heap.size w w'):dQ w' db mb tb v f :=
 h.kept (Kept.aL hb (S:=aZ db mb tb) fun k h1 h2=>by omega)

structure DWf (D:aA):Prop where
 room0:0<=D.room
 room1:D.room<=1048576
 armed0:-1<=D.armed
 armed1:D.armed<=9223372036854775807
 steps0:0<=D.steps
 steps1:D.steps<=1000000000
 many:D.files.length<=1000
 each:∀f ∈ D.files,f.name.size<=16/\f.kept<=f.all.length

structure aG (w:World)(db mb tb:Nat)(D:aA):Prop where
 c0:w.cell? ⟨db,0,none⟩=some (.map (some mb))
 c1:w.cell? ⟨db,1,none⟩=some (.int .i64 D.room)
 c2:w.cell? ⟨db,2,none⟩=some (.bool D.down)
 c3:w.cell? ⟨db,3,none⟩=some (.int .i64 D.armed)
 c4:w.cell? ⟨db,4,none⟩=some (.pointer (some ⟨tb,0,none⟩))
 f1:w.frozen? ⟨db,1,none⟩=false
 f2:w.frozen? ⟨db,2,none⟩=false
 f3:w.frozen? ⟨db,3,none⟩=false
 mt:eH w tb D.steps
 fs:∃vals,gT w mb vals D.files /\ ∀f ∈ D.files,dQ w db mb tb (vals f.name) f
 ne:db≠mb/\db≠tb/\mb≠tb
theorem aG.lt {w:World}{db mb tb:Nat}{D:aA}(h:aG w db mb tb D):db<w.heap.size:=World.block_lt_of_cell? _ _ h.c0
theorem aG.ltm {w:World}{db mb tb:Nat}{D:aA}(h:aG w db mb tb D):mb<w.heap.size:=let ⟨_,h1,_⟩:=h.fs;h1.lt
theorem aG.lt3 {w:World}{db mb tb:Nat}{D:aA}(h:aG w db mb tb D):∀k,aZ db mb tb k->k<w.heap.size:=fun k hk=>by
 rcases hk with rfl|rfl|rfl
 ·exact h.lt
 ·exact h.ltm
 ·exact h.mt.lt
theorem aG.below {w w':World}{db mb tb:Nat}{D:aA}(h:aG w db mb tb D)(hb:Below w.heap.size w w'):aG w' db mb tb D:=by
 have hl:=h.lt;obtain⟨vals,h1,h2⟩:=h.fs;exact⟨Below.at hb h.c0 hl,Below.at hb h.c1 hl,Below.at hb h.c2 hl,Below.at hb h.c3 hl,Below.at hb h.c4 hl,by rw[hb.frozen (p:=⟨db,1,none⟩) hl];exact h.f1,by rw[hb.frozen (p:=⟨db,2,none⟩) hl];exact h.f2,
  by rw[hb.frozen (p:=⟨db,3,none⟩) hl];exact h.f3,h.mt.below hb,⟨vals,h1.below hb,fun f hf=>(h2 f hf).below hb⟩,h.ne⟩
theorem aG.kept {w w':World}{db mb tb:Nat}{D:aA}{S:Nat->Prop}(h:aG w db mb tb D)(hk:Kept w w' S)(hs:∀k,aZ db mb tb k -> ¬S k)
  (hfs:∀vals:ByteArray->Value,∀f ∈ D.files,dQ w db mb tb (vals f.name) f->dQ w' db mb tb (vals f.name) f):aG w' db mb tb D:=by
 have hl:=h.lt;have n0:=hs db (.inl rfl);obtain⟨vals,h1,h2⟩:=h.fs;exact⟨hk.cell h.c0 n0,hk.cell h.c1 n0,hk.cell h.c2 n0,hk.cell h.c3 n0,hk.cell h.c4 n0,(hk.frozen (a:=⟨db,1,none⟩) hl n0).trans h.f1,(hk.frozen (a:=⟨db,2,none⟩) hl n0).trans h.f2,(hk.frozen (a:=⟨db,3,none⟩) hl n0).trans h.f3,
  h.mt.kept hk (hs tb (.inr (.inr rfl))),⟨vals,h1.kept hk (hs mb (.inr (.inl rfl))),fun f hf=>hfs vals f hf (h2 f hf)⟩,h.ne⟩

theorem aG.aJe {w:World}{db mb tb:Nat}{D:aA}(h:aG w db mb tb D)(x:Bool):aG (w.setCell ⟨db,2,none⟩ (.bool x)) db mb tb { D with down:=x }:=by
 have hk:=Kept.setCell w ⟨db,2,none⟩ (.bool x);obtain⟨vals,g1,g2⟩:=h.fs;have hk3:Kept w (w.setCell ⟨db,2,none⟩ (.bool x)) (aZ db mb tb):=hk.mono fun k _ e=>.inl e;exact⟨by rw[cso (by simp)];exact h.c0,by rw[cso (by simp)];exact h.c1,css h.c2,by rw[cso (by simp)];exact h.c3,by rw[cso (by simp)];exact h.c4,by rw[fsc];exact h.f1,by rw[fsc];exact h.f2,by rw[fsc];exact h.f3,
  h.mt.kept hk (fun e=>h.ne.2.1 e.symm),⟨vals,g1.kept hk (fun e=>h.ne.1 e.symm),fun f hf=>(g2 f hf).kept hk3⟩,h.ne⟩
theorem aG.aCO {w:World}{db mb tb:Nat}{D:aA}(h:aG w db mb tb D)(x:Int):aG (w.setCell ⟨db,3,none⟩ (.int .i64 x)) db mb tb { D with armed:=x }:=by
 have hk:=Kept.setCell w ⟨db,3,none⟩ (.int .i64 x);obtain⟨vals,g1,g2⟩:=h.fs;have hk3:Kept w (w.setCell ⟨db,3,none⟩ (.int .i64 x)) (aZ db mb tb):=hk.mono fun k _ e=>.inl e;exact⟨by rw[cso (by simp)];exact h.c0,by rw[cso (by simp)];exact h.c1,by rw[cso (by simp)];exact h.c2,css h.c3,by rw[cso (by simp)];exact h.c4,by rw[fsc];exact h.f1,by rw[fsc];exact h.f2,by rw[fsc];exact h.f3,
  h.mt.kept hk (fun e=>h.ne.2.1 e.symm),⟨vals,g1.kept hk (fun e=>h.ne.1 e.symm),fun f hf=>(g2 f hf).kept hk3⟩,h.ne⟩

theorem aAf (db mb tb:Nat)(D:aA)(w:World)(h:aG w db mb tb D):Calls Tryz.prog 67 #[.pointer (some ⟨db,0,none⟩)] w fun e w'=>e = .returned (.bool false)/\w=w':=by
 have c0:=h.c0;have hm:=fun w=>run_eql_map_nil (P:=Tryz.prog) w 47 9 134 (some mb) Tryz.underlying47;clear h;go_enter Tryz.func67,Tryz.ntmps67;go_wp2_with fail;go_ret;exact⟨rfl,rfl⟩
theorem aBa (db mb tb:Nat)(D:aA)(w:World)(h:aG w db mb tb D):Calls Tryz.prog 80 #[.pointer (some ⟨db,0,none⟩)] w fun e w'=>e = .returned (.int .i64 (if D.down then 50 else 0))/\w=w':=by
 have H:=hid h;have c2:=h.c2;clear h;generalize D.down=dn at c2 ⊢;cases dn
 ·go_enter Tryz.func80,Tryz.ntmps80;go_wp2_with fail;refine(aAf db mb tb D _ H.out).mono ?_;rintro e w1 ⟨rfl,rfl⟩;go_wp2_with fail;go_ret;exact⟨rfl,rfl⟩
 ·go_enter Tryz.func80,Tryz.ntmps80;go_wp2_with fail;refine(aAf db mb tb D _ H.out).mono ?_;rintro e w1 ⟨rfl,rfl⟩;go_wp2_with fail;go_ret;exact⟨rfl,rfl⟩
def bP (D:aA):aA :=
 if D.armed=0 then { D with steps:=D.steps+1,down:=true,armed:=-1 } else if 0<D.armed then { D with steps:=D.steps+1,armed:=D.armed-1 } else { D with steps:=D.steps+1 }
theorem bE (D:aA):(bP D).files=D.files:=by unfold bP;split<;>(try split)<;>rfl
theorem yQ (D:aA):(bP D).room=D.room:=by unfold bP;split<;>(try split)<;>rfl
theorem eG (D:aA):(bP D).steps=D.steps+1:=by unfold bP;split<;>(try split)<;>rfl
def gJ (D:aA):Nat:=if D.armed=0 then 50 else 0

theorem gO (db mb tb:Nat)(D:aA)(w:World)(h:aG w db mb tb D)(hw:DWf D) :
  Calls Tryz.prog 85 #[.pointer (some ⟨db,0,none⟩)] w fun e w'=>e = .returned (.int .i64 (gJ D))/\aG w' db mb tb (bP D)/\Kept w w' (aZ db mb tb):=by
 have H:=hid h;have c4:=h.c4;have hs:=hw.steps1;have ha1:=hw.armed1;have ha0:=hw.armed0;have hs0:=hw.steps0;obtain⟨n1,n2,n3⟩:=h.ne;have hl:=h.lt;have N:=hid (And.intro n1 (And.intro n2 n3));clear h hw n1 n2 n3;have MA:=hid (aLg tb D.steps w H.out.mt hs0 (by omega));have HA:=hid (And.intro ha0 ha1);clear hs hs0 ha1;go_enter Tryz.func85,Tryz.ntmps85;go_wp2_with fail;refine MA.out.mono ?_;rintro e w1 ⟨rfl,h1,k1⟩;have M1:=hid h1;have K1:=hid k1;clear h1 k1;have D1:Hid (aG w1 db mb tb { D with steps:=D.steps+1 }):=hid (by
  have h:=H.out;have n0:¬db=tb:=h.ne.2.1;obtain⟨vals,g1,g2⟩:=h.fs;have K3:Kept w w1 (aZ db mb tb):=K1.out.mono fun k _ e=>.inr (.inr e);exact⟨K1.out.cell h.c0 n0,K1.out.cell h.c1 n0,K1.out.cell h.c2 n0,K1.out.cell h.c3 n0,K1.out.cell h.c4 n0,(K1.out.frozen (a:=⟨db,1,none⟩) hl n0).trans h.f1,(K1.out.frozen (a:=⟨db,2,none⟩) hl n0).trans h.f2,(K1.out.frozen (a:=⟨db,3,none⟩) hl n0).trans h.f3,
   M1.out,⟨vals,g1.kept K1.out h.ne.2.2,fun f hf=>(g2 f hf).kept K3⟩,h.ne⟩)
 have c2:=D1.out.c2;have c3:=D1.out.c3;have f2:=D1.out.f2;have f3:=D1.out.f3;have L1:=D1.out.lt;simp only at c2 c3;have K3:Hid (Kept w w1 (aZ db mb tb)):=hid (K1.out.mono fun k _ e=>.inr (.inr e));by_cases h0:D.armed=0
 ·have e0:((D.armed:Int)==0)=true:=beq_iff_eq.2 h0;have HS:Hid (gJ D=50/\bP D = { D with steps:=D.steps+1,down:=true,armed:=-1 }):=hid (by simp[gJ,bP,h0]);clear h0 ha0;generalize D.armed=ar at c3 e0;go_wp2_with fail;go_ret;rw[HS.out.1,HS.out.2];exact⟨rfl,(D1.out.aJe true).aCO (-1),(K3.out.trans ((Kept.setCell _ ⟨db,2,none⟩ _).mono fun k _ e=>.inl e)).trans ((Kept.setCell _ ⟨db,3,none⟩ _).mono fun k _ e=>.inl e)⟩
 ·have e0:((D.armed:Int)==0)=false:=beq_eq_false_iff_ne.2 h0;by_cases hp:0<D.armed
  ·have HS:Hid (gJ D=0/\bP D = { D with steps:=D.steps+1,armed:=D.armed-1 }):=hid (by simp[gJ,bP,h0,hp]);clear h0 ha0;have ha1:=HA.out.2;have HAR:Hid (∀ar,ar=D.armed->aG (w1.setCell ⟨db,3,none⟩ (.int .i64 (ar-1))) db mb tb { D with steps:=D.steps+1,armed:=D.armed-1 }):=hid fun ar e=>by subst e;exact D1.out.aCO _
   have ham:D.armed-1<=9223372036854775807:=by omega
   have ham0:(0:Int)<=D.armed-1:=by omega
   have hwr:wrap64 (D.armed-1)=D.armed-1:=by simp only[wrap64];omega
   have HWR:=hid hwr;clear hwr ha1 ham ham0;generalize hae:D.armed=ar at c3 e0 hp;have HAE:=hid hae;clear hae;go_wp2_with fail;have hx:wrap64 (ar-1)=ar-1:=by have:=HWR.out;rw[HAE.out]at this;exact this
   rw[hx];go_ret;rw[HS.out.1,HS.out.2];exact⟨rfl,HAR.out ar HAE.out.symm,K3.out.trans ((Kept.setCell _ ⟨db,3,none⟩ _).mono fun k _ e=>.inl e)⟩
  ·have HS:Hid (gJ D=0/\bP D = { D with steps:=D.steps+1 }):=hid (by simp[gJ,bP,h0,hp]);clear h0 ha0;generalize D.armed=ar at c3 e0 hp;go_wp2_with fail;go_ret;rw[HS.out.1,HS.out.2];exact⟨rfl,D1.out,K3.out⟩
theorem iI (n:ByteArray)(w:World)(h:n.size<=9223372036854775807):Calls Tryz.prog 83 #[.string n] w fun e w'=>e = .returned (.bool (decide (1<=n.size/\n.size<=16)))/\w=w':=by
 by_cases h1:1<=n.size
 ·by_cases h2:n.size<=16
  ·rw[decide_eq_true ⟨h1,h2⟩];have a1:(1:Int)<=(n.size:Int):=by omega
   have a2:(n.size:Int)<=16:=by omega
   clear h;go_enter Tryz.func83,Tryz.ntmps83;go_wp2_with fail;go_ret;exact⟨by simp,rfl⟩
  ·rw[decide_eq_false fun g=>h2 g.2];have a1:(1:Int)<=(n.size:Int):=by omega
   have a2:¬(n.size:Int)<=16:=by omega
   go_enter Tryz.func83,Tryz.ntmps83;go_wp2_with fail;go_ret;exact⟨by simp,rfl⟩
 ·rw[decide_eq_false fun g=>h1 g.1];have a1:¬(1:Int)<=(n.size:Int):=by omega
  go_enter Tryz.func83,Tryz.ntmps83;go_wp2_with fail;go_ret;exact⟨by simp,rfl⟩

abbrev zeroV:Value:=.agg #[.slice none 0 0,.int .i64 0]
theorem wK (db mb tb:Nat)(D:aA)(n:ByteArray)(w:World)(h:aG w db mb tb D)(hd:D.down=true) :
  Calls Tryz.prog 72 #[.pointer (some ⟨db,0,none⟩),.string n] w fun e w'=>e = .returned (.tuple #[zeroV,.int .i64 50])/\Below w.heap.size w w':=by
 have H:=hid h;have HD:=hid hd;have hl:=h.lt;clear h hd;go_enter Tryz.func72,Tryz.ntmps72;go_wp2_with fail;refine(aBa db mb tb D _ (H.out.below ((Below.refl _ _).alloc (Nat.le_refl _) _))).mono ?_;rintro e w1 ⟨rfl,rfl⟩;rw[HD.out];go_wp2_with fail;refine bodyPost_ret (v:=.tuple #[.agg #[.slice none 0 0,.int .i64 0],.int .i64 50]) (by simp[results,Tryz.results72,go_sem]) rfl ?_;exact⟨rfl,(Below.refl _ _).alloc (Nat.le_refl _) _⟩

theorem aB2 (db mb tb:Nat)(D:aA)(n:ByteArray)(w:World)(h:aG w db mb tb D)(hd:D.down=false)(hn:n.size<=maxLen)(hf:aE n D.files=none) :
  Calls Tryz.prog 72 #[.pointer (some ⟨db,0,none⟩),.string n] w fun e w'=>e = .returned (.tuple #[zeroV,.int .i64 31])/\Below w.heap.size w w':=by
 have H:=hid h;have HD:=hid hd;have hl:=h.lt;have c0:=h.c0;obtain⟨vals,hm,_⟩:=h.fs;have HM:Hid (∀o:Obj,gT (w.alloc o) mb vals D.files):=hid fun o=>hm.below ((Below.refl _ _).alloc (Nat.le_refl _) o);have HH:Hid (Maps.has (dat vals D.files) (iJ n)=false):=hid (by rw[aA8,hf];rfl);have HK:=hid (cX hn);clear h hd hm hn hf;go_enter Tryz.func72,Tryz.ntmps72;go_wp2_with fail;refine(aBa db mb tb D _ (H.out.below ((Below.refl _ _).alloc (Nat.le_refl _) _))).mono ?_;rintro e w1 ⟨rfl,rfl⟩;rw[HD.out]
 go_wp2_with (at_lookup;refine wpList_lookup_own_ok _ rfl _ _ 47 rfl 9 134 law Tryz.underlying47 gW (aIj _) (.held zeroV) [] (kU _ _ _ _) mb _ _ rfl (HM.out _) _ _ rfl HK.out ?_;intro v ps hv;obtain⟨⟨a',n',c',k',rfl⟩,_⟩:=mN hv;rw[HH.out];clear hv)
 refine bodyPost_ret (v:=.tuple #[.agg #[.slice none 0 0,.int .i64 0],.int .i64 31]) (by simp[results,Tryz.results72,go_sem]) rfl ?_;exact⟨rfl,((Below.refl _ _).alloc (Nat.le_refl _) _).alloc (by simp) _⟩

theorem eW (db mb tb:Nat)(D:aA)(n:ByteArray)(f:aJ)(w:World)(h:aG w db mb tb D)(hd:D.down=false)(hn:n.size<=maxLen)(hf:aE n D.files=some f) :
  Calls Tryz.prog 72 #[.pointer (some ⟨db,0,none⟩),.string n] w fun e w'=>∃v,e = .returned (.tuple #[v,.int .i64 0])/\dQ w' db mb tb v f/\Below w.heap.size w w':=by
 have H:=hid h;have HD:=hid hd;have hl:=h.lt;have c0:=h.c0;obtain⟨vals,hm,hfs⟩:=h.fs;obtain⟨hfn,hfm⟩:=cK hf;have hfi:=hfs f hfm;obtain⟨a,c,hv,hB,hg⟩:=hfi;rw[hfn]at hv;have HFI:Hid (∀w',Below w.heap.size w w'->dQ w' db mb tb (.agg #[.slice a f.all.length c,.int .i64 f.kept]) f):=hid fun w' hb=>dQ.below ⟨a,c,rfl,hB,hg⟩ hb;have HM:Hid (∀o:Obj,gT (w.alloc o) mb vals D.files):=hid fun o=>hm.below ((Below.refl _ _).alloc (Nat.le_refl _) o);have HH:Hid (Maps.has (dat vals D.files) (iJ n)=true):=hid (by rw[aA8,hf];rfl);have HEQ:Hid (∀v ps,gW v=some ((dat vals D.files).atKey (iJ n) (.held zeroV),ps)->v = .agg #[.slice a f.all.length c,.int .i64 f.kept]):=hid fun v ps e=>by
  obtain⟨_,e2⟩:=mN e;rw[dat_at,hf]at e2;simp only[Prod.mk.injEq,DataW.held.injEq]at e2;rw[<- e2.1,hv]
 have HK:=hid (cX hn);clear h hd hm hn hf hfs hfn hfm hv hB hg;go_enter Tryz.func72,Tryz.ntmps72;go_wp2_with fail;refine(aBa db mb tb D _ (H.out.below ((Below.refl _ _).alloc (Nat.le_refl _) _))).mono ?_;rintro e w1 ⟨rfl,rfl⟩;rw[HD.out]
 go_wp2_with (at_lookup;refine wpList_lookup_own_ok _ rfl _ _ 47 rfl 9 134 law Tryz.underlying47 gW (aIj _) (.held zeroV) [] (kU _ _ _ _) mb _ _ rfl (HM.out _) _ _ rfl HK.out ?_;intro v ps hv;obtain rfl:=HEQ.out v ps hv;rw[HH.out];clear hv)
 generalize hwF:World.alloc _ _=wF;have BF:Hid (Below w.heap.size w wF):=hid (by subst hwF;first|exact((Below.refl _ _).alloc (Nat.le_refl _) _).alloc (by simp) _);have C0:Hid (wF.cell? ⟨w.heap.size,0,none⟩=some (.slice a f.all.length c)/\wF.cell? ⟨w.heap.size,1,none⟩=some (.int .i64 f.kept)):=hid (by subst hwF;exact⟨by go_cell,by go_cell⟩);clear hwF;obtain⟨z0,z1⟩:=C0.out;refine bodyPost_ret (v:=.tuple #[.agg #[.slice a f.all.length c,.int .i64 f.kept],.int .i64 0]) (by simp[results,Tryz.results72,go_sem,z0,z1]) rfl ?_;exact⟨_,rfl,HFI.out _ BF.out,BF.out⟩
def bI (D:aA)(n:ByteArray):Nat:=if D.down=true then 50 else if aE n D.files=none then 31 else 0
theorem oR {D:aA}{n:ByteArray}(h:bI D n=0):D.down=false /\ ∃f,aE n D.files=some f:=by
 unfold bI at h;split at h
 ·cases h
 ·rename_i hd;split at h
  ·cases h
  ·rename_i hf;refine⟨by simpa using hd,?_⟩;cases e:aE n D.files with
   | none=>exact absurd e hf
   | some f=>exact⟨f,rfl⟩
theorem mQ (db mb tb:Nat)(D:aA)(n:ByteArray)(w:World)(h:aG w db mb tb D)(hn:n.size<=maxLen)(he:bI D n≠0) :
  Calls Tryz.prog 72 #[.pointer (some ⟨db,0,none⟩),.string n] w fun e w'=>e = .returned (.tuple #[.agg #[.slice none 0 0,.int .i64 0],.int .i64 (bI D n)])/\Below w.heap.size w w':=by
 by_cases hd:D.down=true
 ·have e1:bI D n=50:=if_pos hd;rw[e1];exact wK db mb tb D n w h hd
 ·have hd':D.down=false:=by simpa using hd
  by_cases hf:aE n D.files=none
  ·have e1:bI D n=31:=by unfold bI;rw[if_neg hd,if_pos hf]
   rw[e1];exact aB2 db mb tb D n w h hd' hn hf
  ·exact absurd (by unfold bI;rw[if_neg hd,if_neg hf]) he

theorem kJ (db mb tb:Nat)(D:aA)(n:ByteArray)(w:World)(h:aG w db mb tb D)(hn:n.size<=maxLen)(he:bI D n≠0) :
  Calls Tryz.prog 23 #[.pointer (some ⟨db,0,none⟩),.string n] w fun e w'=>e = .returned (.tuple #[.slice none 0 0,.int .i64 (bI D n)])/\Below w.heap.size w w':=by
 have C:=hid (mQ db mb tb D n w h hn he);obtain⟨k,hk⟩:∃k,bI D n=k:=⟨_,rfl⟩;have hkb:((k:Int) != 0)=true:=bne_iff_ne.2 (by omega);rw[hk]at C ⊢;clear h hn he hk;go_enter Tryz.func23,Tryz.ntmps23;go_wp2_with fail;refine C.out.mono ?_;rintro e w1 ⟨rfl,hb1⟩;have B1:=hid hb1;have L1:=hb1.size;clear hb1;go_wp2_with fail
 go_ret2
 exact⟨rfl,B1.out.alloc L1 _⟩

theorem kX (db mb tb:Nat)(D:aA)(n:ByteArray)(f:aJ)(w:World)(h:aG w db mb tb D)(hd:D.down=false)(hn:n.size<=maxLen)(hf:aE n D.files=some f) :
  Calls Tryz.prog 23 #[.pointer (some ⟨db,0,none⟩),.string n] w fun e w'=>∃v,e = .returned (.tuple #[v,.int .i64 0])/\Bytes w' v f.all/\Below w.heap.size w w':=by
 have C:=hid (eW db mb tb D n f w h hd hn hf);clear h hd hn hf;go_enter Tryz.func23,Tryz.ntmps23;go_wp2_with fail;refine C.out.mono ?_;rintro e w1 ⟨v,rfl,hfi,hb1⟩;obtain⟨a,c,rfl,hB,_⟩:=hfi;have HB:=hid hB;have B1:=hid hb1;have L1:=hb1.size;have hs:(ints f.all).length<=2097152:=by rw[aS];exact hB.small
 clear hb1 hB;go_wp2_with fail;refine(nJ _ _ _ (HB.out.alloc _).rd hs).mono ?_;rintro e w2 ⟨v2,rfl,hown,hb2⟩;have O2:=hid hown;have B2:=hid hb2;clear hown hb2;go_wp2_with fail
 go_ret2
 exact⟨v2,rfl,Bytes.dL O2.out HB.out.lt HB.out.small,(B1.out.alloc L1 _).trans (B2.out.mono (by simp;omega))⟩

theorem gT.made (w:World)(vals:ByteArray->Value):gT (w.alloc (.map #[] 0)) w.heap.size vals []:=World.ownsMap_made _ _ _ _

theorem aKJ (room:Int)(w:World)(h0:0<=room)(h1:room<=1048576) :
  Calls Tryz.prog 20 #[.int .i64 room] w fun e w'=>∃db mb tb,e = .returned (.pointer (some ⟨db,0,none⟩))/\aG w' db mb tb ⟨room,[],false,-1,0⟩/\Below w.heap.size w w'/\w.heap.size<=db/\w.heap.size<=mb/\w.heap.size<=tb:=by
 have hmm:=@run_makeMap Tryz.prog;have a0:¬room<0:=by omega
 go_enter Tryz.func20,Tryz.ntmps20;go_wp2_with fail;refine(aLj _).mono ?_;rintro e w1 ⟨rfl,h1,hb1⟩;have M1:=hid h1;have B1:=hid hb1;have L1:=hb1.size;have LM:=h1.lt;clear h1 hb1 hmm;go_wp2_with fail;go_ret;have HM:gT (w.alloc (.map #[] 0)) w.heap.size (fun _=>zeroV) []:=gT.made w _;have L0:w.heap.size+1<w1.heap.size:=by have:=LM;simp at this;exact this
 generalize hwF:World.alloc w1 _=wF;have BF:Below w1.heap.size w1 wF:=by subst hwF;exact(Below.refl _ _).alloc (Nat.le_refl _) _
 have B0:Below w.heap.size w w1:=((Below.refl _ _).alloc (Nat.le_refl _) _).trans (B1.out.mono (by simp));refine⟨w1.heap.size,w.heap.size,w.heap.size+1,rfl,⟨by subst hwF;go_cell,by subst hwF;go_cell,by subst hwF;go_cell,by subst hwF;go_cell,by subst hwF;go_cell,by subst hwF;simp,by subst hwF;simp,by subst hwF;simp,?_,⟨fun _=>zeroV,(HM.below B1.out).below BF,nofun⟩,⟨by omega,by omega,by omega⟩⟩,B0.trans (BF.mono B0.size),by omega,Nat.le_refl _,by omega⟩;have hM:=M1.out;rw[show (w.alloc (.map #[] 0)).heap.size=w.heap.size+1 by simp]at hM;exact hM.below BF
