/- For scbodies_law_holds. -/
import Derived.Laws.BytesArg
import Derived.Lib.ConvBytes
import Derived.Test.YtgeihgombjbkbaaGreatSbb10
set_option maxHeartbeats 16000000
set_option maxRecDepth 100000
namespace Go.Proofs.YtgeihgombjbkbaaGreat
open Go.RowKit Go.Maps Go.Proofs.Own

def eY (l:List Nat):ByteArray:=⟨(l.map UInt8.ofNat).toArray⟩
def iO (s:ByteArray):List Nat:=s.data.toList.map UInt8.toNat
theorem jT {l:List Nat}(h:∀c ∈ l,c<256):iO (eY l)=l:=by
 have h1:iO (eY l)=(l.map UInt8.ofNat).map UInt8.toNat:=rfl;rw[h1,List.map_map]
 conv=>rhs;rw[<- List.map_id l]
 exact List.map_congr_left fun c hc=>by
  have:=h c hc;show (UInt8.ofNat c).toNat=c;rw[UInt8.toNat_ofNat'];exact Nat.mod_eq_of_lt this
theorem pU {l m:List Nat}(hl:∀c ∈ l,c<256)(hm:∀c ∈ m,c<256)(h:eY l=eY m):l=m:=by
 rw[<- jT hl,<- jT hm,h]
theorem zI (s:ByteArray):∀c ∈ iO s,c<256:=by
 intro c hc;simp only[iO,List.mem_map]at hc;obtain⟨x,_,rfl⟩:=hc;exact UInt8.toNat_lt x
theorem dQ (s:ByteArray):(iO s).length=s.size:=by rw[iO,List.length_map];rfl
theorem aAg (l:List Nat):(eY l).size=l.length:=by show (l.map UInt8.ofNat).toArray.size=_;rw[List.size_toArray,List.length_map]
theorem pV (l:List Nat):strOfNums (ints l)=eY l:=by
 unfold strOfNums ints eY;rw[List.map_map]
 congr 2

theorem Bytes.str {P:Program}{src dst e:TypeId}(hs:P.underlying src=some (.slice e))(he:P.underlying e=some (.int .u8))(hd:P.underlying dst=some .string){w:World}{v:Value}{l:List Nat}(h:Bytes w v l) :
  (convert src dst v).run P w = .ok (.string (eY l)) w:=by
 obtain⟨a,c,rfl,_⟩:=h.shape;cases a with
 | none =>
  obtain⟨_,_,hc⟩:=h.cells;have:l = []:=by
   cases l with
   | nil=>rfl
   | cons x l=>obtain⟨b,o,e,_⟩:=hc 0 (by simp);cases e
  subst this;rw[run_convert_bytes_nil w src e hs he _ _ dst hd];rfl
 | some ad =>
  obtain⟨_,_,hc⟩:=h.cells;by_cases h0:l = []
  ·subst h0;rw[run_convert_bytes_string w src dst e _ _ _ hs he hd];have hl:=run_loadCells_list (P:=P) w ad [] (by simp);rw[show ([]:List Nat).length=([]:List Value).length from rfl];rw[run_bytesToString w ad _ c [] (by simpa using hl)];rfl
  ·obtain⟨b,o,e0,_⟩:=hc 0 (List.length_pos_iff.2 h0);cases e0;rw[<- pV];refine run_convert_bytes_arg w src e hs he b o _ c (ints l) (by rw[aF]) (fun i hi=>?_) dst hd;obtain⟨b',o',e1,h1⟩:=hc i hi;cases e1;rw[h1];simp[ints,List.getD_eq_getElem?_getD,hi]
theorem qE {P:Program}(w:World)(src dst e:TypeId)(s:ByteArray)(hs:P.underlying src=some .string)(hd:P.underlying dst=some (.slice e))(he:P.underlying e=some (.int .u8))(hsz:s.size<=2097152) :
  ∃v w',(convert src dst (.string s)).run P w = .ok v w'/\Bytes w' v (iO s)/\Below w.heap.size w w'/\v.ownBlock=some w.heap.size:=by
 have hge:=grownCap_ge w s.size 0 e;refine⟨_,_,run_bytes_of_string w src dst e s hs hd he,?_,((Below.refl _ _).drew).alloc (Nat.le_refl _) _,rfl⟩;generalize grownCap w s.size 0 e=c at hge;refine⟨⟨_,_,by rw[dQ],by rw[dQ];exact hge⟩,⟨_,_,by rw[aF,dQ],fun j hj=>⟨w.heap.size,0,rfl,?_⟩⟩,zI s,by rw[dQ];exact hsz⟩;have hj':j<s.data.size:=by rw[aF,dQ]at hj;exact hj
 have hb:(w.drew.alloc (.cells (bytesRow s c) e ((bytesRow s c).size,(bytesRow s c).size+1))).heap[w.heap.size]? = some (.cells (bytesRow s c) e ((bytesRow s c).size,(bytesRow s c).size+1)):=heap_alloc_new w.drew _;rw[ints_at];have h1:(bytesRow s c)[j]? = some (.int .u8 (s.data[j].toNat:Nat)):=by
  unfold bytesRow;rw[Array.getElem?_append_left (by simpa using hj')];rw[Array.getElem?_map,Array.getElem?_eq_getElem hj'];rfl
 have h2:(iO s)[j]'(by rw[dQ];exact hj')=s.data[j].toNat:=by simp[iO]
 rw[h2,Nat.zero_add];simp only[World.cell?];rw[hb];exact h1

theorem wY {a b:ByteArray}(h:a≠b):(a.toList==b.toList)=false:=by
 refine beq_eq_false_iff_ne.2 fun e=>h ?_;rw[ByteArray.toList_eq,ByteArray.toList_eq]at e;cases a;cases b
 congr
 exact Array.toList_inj.1 e
theorem mT {a b:ByteArray}(h:a=b):(a.toList==b.toList)=true:=by
 subst h;exact beq_iff_eq.2 rfl

section
variable {P:Program} {ops:Array Oper} {rest:List Oper} {o:Oper} {a:Act} {Q:Exit->Act->World->Prop} {w:World}
theorem fJ (hg:o.guard=none)(src dst e:TypeId)(x:Operand)(hop:o.op=Op.convert src dst x)(hs:P.underlying src=some (.slice e))(he:P.underlying e=some (.int .u8))(hd:P.underlying dst=some .string)
  (v:Value) (l:List Nat) (hx:a.eval x=v) (hB:Bytes w v l)
  (hK:wpList P ops Q rest (a.put o.dst (.string (eY l))) w):wpList P ops Q (o::rest) a w:=by
 refine wpList_plain hg fun K' hK'=>?_;have hrun:=hB.str hs he hd;unfold Oper.wp;simp[execOp,hop,hx,hrun,Result.andThen];exact hK' _ _ hK
end

def aU (w:World)(sz:Nat)(v:Value)(rs:List (List Value)):Prop :=
 ∃a c,v = .slice a rs.length c/\rs.length<=c /\ ∀j (h:j<rs.length),∃b o,a=some ⟨b,o,none⟩/\b<w.heap.size /\ ∀i x,rs[j][i]? = some x->w.cell? ⟨b,o+j*sz+i,none⟩=some x
theorem aU.kept {w w':World}{sz:Nat}{v:Value}{rs:List (List Value)}{S:Nat->Prop}(h:aU w sz v rs)(hk:Kept w w' S)(hs:rs = [] \/ ∀b,v.ownBlock=some b -> ¬S b):aU w' sz v rs:=by
 obtain⟨a,c,rfl,hl,hc⟩:=h;refine⟨a,c,rfl,hl,fun j hj=>?_⟩;obtain⟨b,o,rfl,h0,h1⟩:=hc j hj;refine⟨b,o,rfl,Nat.lt_of_lt_of_le h0 hk.size,fun i x hx=>hk.cell (h1 i x hx) ?_⟩;rcases hs with hs|hs
 ·subst hs;exact absurd hj (Nat.not_lt_zero j)
 ·exact hs b rfl
theorem aU.below {w w':World}{sz:Nat}{v:Value}{rs:List (List Value)}(h:aU w sz v rs)(hb:Below w.heap.size w w'):aU w' sz v rs :=
 h.kept (Kept.aY hb (S:=fun _=>False) fun k h1 h2=>by omega) (.inr fun _ _ h=>h)
theorem aU.nil (w:World)(sz:Nat):aU w sz (.slice none 0 0) []:=⟨none,0,rfl,Nat.le_refl _,fun j h=>absurd h (Nat.not_lt_zero j)⟩
theorem aU.shape {w:World}{sz:Nat}{v:Value}{rs:List (List Value)}(h:aU w sz v rs):∃a c,v = .slice a rs.length c/\rs.length<=c:=let ⟨a,c,e,hl,_⟩:=h;⟨a,c,e,hl⟩
theorem aU.at {w:World}{sz:Nat}{a:Option Addr}{n c:Nat}{rs:List (List Value)}(h:aU w sz (.slice a n c) rs){j:Nat}(hj:j<rs.length):∃b o,a=some ⟨b,o,none⟩/\b<w.heap.size /\ ∀i x,rs[j][i]? = some x->w.cell? ⟨b,o+j*sz+i,none⟩=some x:=by
 obtain⟨a',c',e,_,hc⟩:=h;cases e;exact hc j hj
end Go.Proofs.YtgeihgombjbkbaaGreat
namespace Go.Proofs.Own
open Go Go.RowKit

structure dC (w:World)(base:Nat)(e:TypeId)(sz:Nat)(v:Value)(rs:List (List Value)):Prop where
 own:w.ownsRow base e sz v rs.length rs.flatten
 each:∀r ∈ rs,r.length=sz
theorem dC.nil (w:World)(base:Nat)(e:TypeId)(sz:Nat):dC w base e sz (.slice none 0 0) []:=⟨World.ownsRow_nil w base e sz,nofun⟩
theorem dC.lt {w:World}{base:Nat}{e:TypeId}{sz:Nat}{v:Value}{rs:List (List Value)}(h:dC w base e sz v rs):∀b,v.ownBlock=some b->base<=b/\b<w.heap.size:=World.ownsRow.lt h.own
theorem dC.shape {w:World}{base:Nat}{e:TypeId}{sz:Nat}{v:Value}{rs:List (List Value)}(h:dC w base e sz v rs):∃a c,v = .slice a rs.length c:=by
 rcases h.own.2 with ⟨rfl,h0⟩|⟨g,cap,cur,rfl,_⟩
 ·exact⟨none,0,by rw[h0]⟩
 ·exact⟨_,_,rfl⟩
theorem dC.kept {w w':World}{base:Nat}{e:TypeId}{sz:Nat}{v:Value}{rs:List (List Value)}{S:Nat->Prop}(h:dC w base e sz v rs)(hk:Kept w w' S)(hs:∀b,v.ownBlock=some b -> ¬S b):dC w' base e sz v rs:=by
 refine⟨⟨h.own.1,?_⟩,h.each⟩;rcases h.own.2 with hn|⟨g,cap,cur,rfl,hb,hg,r⟩
 ·exact .inl hn
 ·exact .inr ⟨g,cap,cur,rfl,hb,by rw[hk.block g (Array.getElem?_eq_some_iff.1 hg).1 (hs g rfl)];exact hg,r⟩
theorem dC.below {w w':World}{base:Nat}{e:TypeId}{sz:Nat}{v:Value}{rs:List (List Value)}(h:dC w base e sz v rs)(hb:Below w.heap.size w w'):dC w' base e sz v rs :=
 h.kept (Kept.aY hb (S:=fun _=>False) fun k h1 h2=>by omega) fun _ _ h=>h
theorem dC.alloc {w:World}{base:Nat}{e:TypeId}{sz:Nat}{v:Value}{rs:List (List Value)}(h:dC w base e sz v rs)(o:Obj):dC (w.alloc o) base e sz v rs:=h.below ((Below.refl _ _).alloc (Nat.le_refl _) o)
theorem oL {sz:Nat}:∀ {rs:List (List Value)},(∀r ∈ rs,r.length=sz) -> ∀ {j:Nat} (hj:j<rs.length) {i:Nat} {x:Value},rs[j][i]? = some x->rs.flatten[j*sz+i]? = some x
 | [],_,j,hj,_,_,_=>absurd hj (Nat.not_lt_zero j)
 | r::rs,h,j,hj,i,x,hx=>by
  have hr:r.length=sz:=h r List.mem_cons_self;cases j with
  | zero =>
   have hx':r[i]? = some x:=by simpa using hx
   have hi:i<r.length:=(List.getElem?_eq_some_iff.1 hx').1;rw[List.flatten_cons,Nat.zero_mul,Nat.zero_add,List.getElem?_append_left hi];exact hx'
  | succ j =>
   have hx':(rs[j]'(by simpa using hj))[i]? = some x:=by simpa using hx
   rw[List.flatten_cons,List.getElem?_append_right (by rw[hr,Nat.add_mul];omega),hr,show (j+1)*sz+i-sz=j*sz+i by rw[Nat.add_mul];omega];exact oL (fun q hq=>h q (List.mem_cons_of_mem _ hq)) _ hx'
theorem dU {sz:Nat}:∀ {rs:List (List Value)},(∀r ∈ rs,r.length=sz)->rs.flatten.length=rs.length*sz
 | [],_=>by simp
 | r::rs,h=>by
  rw[List.flatten_cons,List.length_append,h r List.mem_cons_self,dU fun q hq=>h q (List.mem_cons_of_mem _ hq),List.length_cons,Nat.add_mul];omega

structure cE (P:Program)(t e:TypeId)(sz by':Nat):Prop where
 under:P.underlying t=some (.slice e)
 info:∃i z,P.info? e=some i/\i.zero=some z/\i.size=sz/\i.bytes=by'/\z.cells.size=sz
 pos:0<sz
 few:by'<=1024

theorem pO {P:Program}{t e:TypeId}{sz by':Nat}(I:cE P t e sz by')(w:World)(ty:TypeId)(base:Nat)(v:Value)(rs:List (List Value))(g:Nat)(r:List Value)
  (hown:dC w base e sz v rs) (hr:r.length=sz) (hc:∀j u,r[j]? = some u->w.cell? ⟨g,j,none⟩=some u) (h1:∀u ∈ r,u.oneCell'=true) (hlen:rs.length<=4294967296) (hbase:base<=w.heap.size) :
  ∃v' w',(Builtin.append_ #[t,t] ty #[v,.slice (some ⟨g,0,none⟩) 1 1]).run P w = .ok v' w'/\dC w' base e sz v' (rs ++ [r])/\w.grownBy w' v.ownBlock/\(v'.ownBlock=v.ownBlock\/v'.ownBlock=some w.heap.size)/\Below base w w':=by
 obtain⟨i,z,hi,hz,hs,hb,hzs⟩:=I.info;obtain⟨v',w',hrun,g1,g2,_,g4⟩:=run_append_own_at (P:=P) w base t ty e i z sz by' I.under hi hz hs hb hzs I.pos v rs.length rs.flatten hown.own ⟨g,0,none⟩ 1 1 r (by rw[hr];omega)
  (fun j u hu=>by rw[Addr.add_lit,Nat.zero_add];exact hc j u hu) h1 (by unfold maxLen;omega) (by have:=Nat.mul_le_mul (show rs.length+1<=4294967297 by omega) I.few;omega) hbase
 refine⟨v',w',hrun,⟨by rw[List.length_append,List.flatten_append];simpa using g1,?_⟩,g2,g4,(Below.refl _ _).grown g2 hbase fun k hk=>(hown.lt k hk).1⟩;intro q hq;rcases List.mem_append.1 hq with hq|hq
 ·exact hown.each q hq
 ·obtain rfl:=List.mem_singleton.1 hq;exact hr

section
variable {P:Program} {t e:TypeId} {sz by':Nat} (I:cE P t e sz by') {w:World} {o:Oper} {a:Act} {Q:Exit->Act->World->Prop} (s x:Operand)
 (ho:o.op = .call { callee:=.builtin .append,args:=#[s,x],argTypes:=#[t,t] }) (base:Nat) (v:Value) (rs:List (List Value)) (g:Nat) (r:List Value) (hs:a.eval s=v) (hx:a.eval x = .slice (some ⟨g,0,none⟩) 1 1)
 (hown:dC w base e sz v rs) (hr:r.length=sz) (hc:∀j u,r[j]? = some u->w.cell? ⟨g,j,none⟩=some u) (h1:∀u ∈ r,u.oneCell'=true) (hlen:rs.length<=4294967296) (hbase:base<=w.heap.size)
include I ho hs hx hown hr hc h1 hlen hbase
theorem qH {K:Act->World->Prop}
  (h:∀v' w',dC w' base e sz v' (rs ++ [r])->w.grownBy w' v.ownBlock->(v'.ownBlock=v.ownBlock\/v'.ownBlock=some w.heap.size)->Below base w w'->K (a.put o.dst v') w'):o.wp P a w K Q:=by
 obtain⟨v',w',hrun,k1,k2,k3,k4⟩:=pO I w o.type base v rs g r hown hr hc h1 hlen hbase;unfold Oper.wp execOp;simp only[ho,resolve,invoke,builtin,Sem.run_bind,Sem.run_pure,Result.andThen_ok,List.map_toArray,List.map_cons,List.map_nil,hs,hx,hrun];exact h v' w' k1 k2 k3 k4
theorem mI {ops:Array Oper}{rest:List Oper}(hgd:o.guard=none)
  (h:∀v' w',dC w' base e sz v' (rs ++ [r])->w.grownBy w' v.ownBlock->(v'.ownBlock=v.ownBlock\/v'.ownBlock=some w.heap.size)->Below base w w'->wpList P ops Q rest (a.put o.dst v') w') :
  wpList P ops Q (o::rest) a w :=
 wpList_plain hgd fun _ hK=>qH I s x ho base v rs g r hs hx hown hr hc h1 hlen hbase fun v' w' k1 k2 k3 k4=>hK _ _ (h v' w' k1 k2 k3 k4)
end
end Go.Proofs.Own
namespace Go.Proofs.YtgeihgombjbkbaaGreat
open Go.RowKit Go.Maps Go.Proofs.Own
theorem aU.cX {w:World}{base:Nat}{e:TypeId}{sz:Nat}{v:Value}{rs:List (List Value)}(h:dC w base e sz v rs):aU w sz v rs:=by
 have hw:=h.own;rcases h.own.2 with ⟨rfl,h0⟩|⟨g,cap,cur,rfl,_,hg,hn,_⟩
 ·have:rs = []:=List.eq_nil_of_length_eq_zero h0;subst this;exact aU.nil w sz
 ·refine⟨_,_,rfl,hn,fun j hj=>⟨g,0,rfl,(Array.getElem?_eq_some_iff.1 hg).1,fun i x hx=>?_⟩⟩;rw[Nat.zero_add];have hf:=oL h.each hj hx;have hlt:j*sz+i<rs.length*sz:=by
   have:=(List.getElem?_eq_some_iff.1 hf).1
   rwa [dU h.each]at this
  rw[hw.cellAt (j*sz+i) hlt];exact hf
end Go.Proofs.YtgeihgombjbkbaaGreat
namespace Go.Proofs.YtgeihgombjbkbaaGreat
open Go.RowKit Go.Maps Go.Proofs.Own

structure jG (S:World->Prop):Prop where
 below:∀ {w w':World},S w->Below w.heap.size w w'->S w'
theorem jG.alloc {S:World->Prop}(h:jG S){w:World}(hs:S w)(o:Obj):S (w.alloc o):=h.below hs ((Below.refl _ _).alloc (Nat.le_refl _) o)
theorem jG.drew {S:World->Prop}(h:jG S){w:World}(hs:S w):S w.drew:=h.below hs ((Below.refl _ _).drew)
theorem jG.from(W:World):jG fun w=>Below W.heap.size W w:=⟨fun hs hb=>hs.trans (hb.mono hs.size)⟩

def beN (l:List Nat):Nat:=l.foldl (fun n c=>n*256+c) 0
theorem aKX (l:List Nat):∀n k,n<256 ^ k->(∀c ∈ l,c<256)->l.foldl (fun n c=>n*256+c) n<256 ^ (k+l.length):=by
 induction l with
 | nil=>intro n k h _;simpa using h
 | cons c l ih =>
  intro n k h hl;have hc:=hl c (by simp);have:=ih (n*256+c) (k+1) (by rw[Nat.pow_succ];have:=Nat.mul_le_mul_right 256 (show n+1<=256 ^ k from h);omega) fun d hd=>hl d (by simp[hd])
  simpa [Nat.add_assoc,Nat.add_comm 1] using this
theorem aKY (l:List Nat)(hl:∀c ∈ l,c<256):beN l<256 ^ l.length:=by
 have:=aKX l 0 0 (by decide) hl
 simpa [beN] using this
theorem aAA (l:List Nat)(c:Nat):beN (l ++ [c])=beN l*256+c:=by simp[beN,List.foldl_append]
theorem fL (l:List Nat)(k:Nat)(h:k<l.length):beN (l.take (k+1))=beN (l.take k)*256+l[k]:=by
 rw[List.take_succ_eq_append_getElem h,aAA]

theorem bJF (a b:Nat)(ha:a<18446744073709551616)(hb:b<18446744073709551616):bits .or .u64 (a:Int) (b:Int)=((a ||| b:Nat):Int):=by
 have hx:a ||| b<2 ^ 64:=Nat.or_lt_two_pow (by omega) (by omega)
 have h64:∀n:Nat,n<18446744073709551616->(BitVec.ofInt 64 (n:Int)).toNat=n:=fun n hn=>by
  rw[BitVec.ofInt_natCast,BitVec.toNat_ofNat];exact Nat.mod_eq_of_lt (by omega)
 have hw:IntKind.u64.wrap ((a ||| b:Nat):Int)=((a ||| b:Nat):Int):=by
  have:∀n:Int,IntKind.u64.wrap n=n % 18446744073709551616:=fun n=>by simp[IntKind.wrap,IntKind.bits,IntKind.signed]
  rw[this];omega
 show IntKind.u64.wrap ((BitVec.ofInt 64 (a:Int) ||| BitVec.ofInt 64 (b:Int)).toNat:Int)=_;rw[BitVec.toNat_or,h64 a ha,h64 b hb,hw]
theorem aKs (a c:Nat)(hc:c<256):a*256 ||| c=a*256+c:=by
 have:=Nat.two_pow_add_eq_or_of_lt (i:=8) (b:=c) (by omega) a;rw[show 2 ^ 8*a=a*256 by omega]at this;exact this.symm

theorem wrap_u64 (n:Int):IntKind.u64.wrap n=n % 18446744073709551616:=by simp[IntKind.wrap,IntKind.bits,IntKind.signed]
theorem tG (n z:Nat)(hz:z<256)(hn:n*256+z<18446744073709551616):bits BinOp.or .u64 (IntKind.u64.wrap ((n:Int)*256)) (z:Int)=((n*256+z:Nat):Int):=by
 have h1:n*256<18446744073709551616:=Nat.lt_of_le_of_lt (Nat.le_add_right _ _) hn;have h2:z<18446744073709551616:=Nat.lt_of_le_of_lt (Nat.le_add_left _ _) hn;have h3:=bJF (n*256) z h1 h2;have hw:IntKind.u64.wrap ((n:Int)*256)=((n*256:Nat):Int):=by
  rw[wrap_u64];exact Int.emod_eq_of_lt (Int.natCast_nonneg (n*256)) (Int.ofNat_lt.2 h1)
 clear h1 h2 hn;have h4:=aKs n z hz;rw[h4]at h3;rw[hw];exact h3
theorem mK {l:List Nat}(hl:∀c ∈ l,c<256)(h8:l.length<=8):beN l<18446744073709551616 :=
 Nat.lt_of_lt_of_le (aKY l hl) (Nat.le_trans (Nat.pow_le_pow_right (by decide) h8) (Nat.le_of_ble_eq_true rfl))


def cH (l:List Nat):Prop:=8<l.getD 0 0\/l.length<=l.getD 0 0\/(0<l.getD 0 0/\l.getD 1 0=0)
instance (l:List Nat):Decidable (cH l):=inferInstanceAs (Decidable (_\/_))
def eX (l:List Nat):Nat:=beN ((l.drop 1).take (l.getD 0 0))
def cI (most:Nat)(l:List Nat):Prop:=¬cH l/\eX l<=most
instance (most:Nat) (l:List Nat):Decidable (cI most l):=inferInstanceAs (Decidable (_/\_))
def aB (most:Nat)(l:List Nat):Nat:=if cI most l then eX l else 0
def eC (most:Nat)(l:List Nat):List Nat:=if cI most l then l.drop (l.getD 0 0+1) else []
def lI (most:Nat)(l:List Nat):Bool:=if cI most l then false else true
theorem aD (most:Nat)(l:List Nat):aB most l<=most:=by
 unfold aB;split
 ·rename_i h;exact h.2
 ·exact Nat.zero_le _
theorem xS (most:Nat)(l:List Nat):(eC most l).length<=l.length:=by
 unfold eC;split
 ·rw[List.length_drop];omega
 ·simp

def eG (most:Nat)(l:List Nat):Prop:=aB most l<=(eC most l).length
instance (most:Nat) (l:List Nat):Decidable (eG most l):=inferInstanceAs (Decidable (_<=_))
def dY (most:Nat)(l:List Nat):List Nat:=if eG most l then (eC most l).take (aB most l) else []
def kD (most:Nat)(l:List Nat):List Nat:=if eG most l then (eC most l).drop (aB most l) else []
def kC (most:Nat)(l:List Nat):Bool:=lI most l || if eG most l then false else true
def hP (l:List Nat)(bad:Bool):Nat:=if bad=true\/0<l.length then 20 else 0

structure aE (w:World)(b rb:Nat)(l:List Nat)(bad:Bool):Prop where
 ex:∃v,w.cell? ⟨b,0,none⟩=some v/\Bytes w v l/\(l = []\/v.ownBlock=some rb)
 ne:rb≠b
 bad:w.cell? ⟨b,1,none⟩=some (.bool bad)
 free0:w.frozen? ⟨b,0,none⟩=false
 free1:w.frozen? ⟨b,1,none⟩=false
variable {rb:Nat}
theorem aE.lt {w:World}{b:Nat}{l:List Nat}{bad:Bool}(h:aE w b rb l bad):b<w.heap.size:=World.block_lt_of_cell? _ _ h.bad
theorem aE.below {w w':World}{b:Nat}{l:List Nat}{bad:Bool}(h:aE w b rb l bad)(hb:Below w.heap.size w w'):aE w' b rb l bad:=by
 obtain⟨v,h1,h2,h3⟩:=h.ex;have hl:=h.lt;exact⟨⟨v,Below.at hb h1 hl,h2.below hb,h3⟩,h.ne,Below.at hb h.bad hl,by rw[hb.frozen (p:=⟨b,0,none⟩) hl];exact h.free0,by rw[hb.frozen (p:=⟨b,1,none⟩) hl];exact h.free1⟩
theorem Bytes.oR {w w':World}{v:Value}{l:List Nat}{S:Nat->Prop}(h:Bytes w v l)(hk:Kept w w' S)(hv:l = []\/v.ownBlock=some rb)(hs:¬S rb):Bytes w' v l:=by
 rcases hv with rfl|hv
 ·exact⟨h.shape,by obtain⟨a,c,rfl,_⟩:=h.shape;exact Reads.nil _ _ _ _,h.lt,h.small⟩
 ·exact h.kept hk fun k hk'=>by rw[hv]at hk';cases hk';exact hs
theorem aE.kept {w w':World}{b:Nat}{l:List Nat}{bad:Bool}{S:Nat->Prop}(h:aE w b rb l bad)(hk:Kept w w' S)(hs:¬S b)(hr:¬S rb):aE w' b rb l bad:=by
 obtain⟨v,h1,h2,h3⟩:=h.ex;have hl:=h.lt;exact⟨⟨v,hk.cell h1 hs,h2.oR hk h3 hr,h3⟩,h.ne,hk.cell h.bad hs,by rw[hk.frozen (a:=⟨b,0,none⟩) hl hs];exact h.free0,by rw[hk.frozen (a:=⟨b,1,none⟩) hl hs];exact h.free1⟩
theorem aE.set {w:World}{b:Nat}{l l':List Nat}{bad:Bool}(h:aE w b rb l bad){v':Value}(hB:Bytes w v' l')(hv:l' = []\/v'.ownBlock=some rb):aE (w.setCell ⟨b,0,none⟩ v') b rb l' bad:=by
 obtain⟨v,h1,_,_⟩:=h.ex;have hk:=Kept.setCell w ⟨b,0,none⟩ v';refine⟨⟨v',css h1,hB.oR hk hv h.ne,hv⟩,h.ne,?_,by rw[fsc];exact h.free0,by rw[fsc];exact h.free1⟩;rw[cso (by simp)];exact h.bad
theorem aE.aI4 {w:World}{b:Nat}{l:List Nat}{bad:Bool}(h:aE w b rb l bad)(bad':Bool):aE (w.setCell ⟨b,1,none⟩ (.bool bad')) b rb l bad':=by
 obtain⟨v,h1,h2,h3⟩:=h.ex;have hk:=Kept.setCell w ⟨b,1,none⟩ (.bool bad');refine⟨⟨v,?_,h2.oR hk h3 h.ne,h3⟩,h.ne,css h.bad,by rw[fsc];exact h.free0,by rw[fsc];exact h.free1⟩;rw[cso (by simp)];exact h1
end Go.Proofs.YtgeihgombjbkbaaGreat
namespace Go.Proofs.YtgeihgombjbkbaaGreat
open Go.Lib (hid)
open Go.RowKit Go.Maps Go.Proofs.Own
variable {rb:Nat}

theorem cU (b:Nat)(l:List Nat)(bad:Bool)(w:World)(h:aE w b rb l bad) :
  Calls Tryz.prog 75 #[.pointer (some ⟨b,0,none⟩)] w fun e w'=>e = .returned (.tuple #[])/\aE w' b rb [] true/\Kept w w' (fun k=>k=b):=by
 have H:=hid h;obtain⟨v,c0,_,_⟩:=h.ex;have c1:=h.bad;have f0:=h.free0;have f1:=h.free1;clear h;go_enter Tryz.func75,Tryz.ntmps75;go_wp2_with fail
 go_end0
 refine⟨rfl,(H.out.set (Bytes.nil _) (.inl rfl)).aI4 true,(Kept.setCell w ⟨b,0,none⟩ _).trans (Kept.setCell _ ⟨b,1,none⟩ _)⟩

theorem bS (b:Nat)(l:List Nat)(bad:Bool)(w:World)(h:aE w b rb l bad) :
  Calls Tryz.prog 118 #[.pointer (some ⟨b,0,none⟩)] w fun e w'=>e = .returned (.int .i64 l.length)/\w=w':=by
 obtain⟨v,c0,hB,_⟩:=h.ex;obtain⟨a,c,rfl,_⟩:=hB.shape;clear h hB;go_enter Tryz.func118,Tryz.ntmps118;go_wp2_with fail;go_ret;exact⟨rfl,rfl⟩

def gU (b rb most:Nat)(l:List Nat)(bad:Bool)(w:World):Ending->World->Prop:=fun e w'=>e = .returned (.tuple #[.int .u64 (aB most l),.bool false])/\aE w' b rb (eC most l) (bad || lI most l)/\Kept w w' (fun k=>k=b)
theorem jU {b most:Nat}{l:List Nat}{bad:Bool}{w:World}(h:¬cI most l):gU b rb most l bad w=fun e w'=>e = .returned (.tuple #[.int .u64 0,.bool false])/\aE w' b rb [] true/\Kept w w' (fun k=>k=b):=by
 unfold gU aB eC lI;simp[h]
theorem sN {b most:Nat}{l:List Nat}{bad:Bool}{w:World}(h:cI most l):gU b rb most l bad w=fun e w'=>e = .returned (.tuple #[.int .u64 (eX l),.bool false])/\aE w' b rb (l.drop (l.getD 0 0+1)) bad/\Kept w w' (fun k=>k=b):=by
 unfold gU aB eC lI;simp[h]

theorem aIK (b most:Nat)(bad:Bool)(w:World)(h:aE w b rb [] bad) :
  Calls Tryz.prog 72 #[.pointer (some ⟨b,0,none⟩),.int .u64 most,.bool false] w (gU b rb most [] bad w):=by
 rw[jU (by simp[cI,cH])];have H:=hid h;clear h;go_enter Tryz.func72,Tryz.ntmps72;go_wp2_with fail;refine(bS b [] bad _ H.out).mono ?_;rintro e w1 ⟨rfl,rfl⟩;go_wp2_with fail;refine(cU b [] bad _ H.out).mono ?_;rintro e w1 ⟨rfl,h1,h2⟩;have H1:=hid h1;have H2:=hid h2;clear h1 h2;go_wp2_with fail
 go_ret2
 exact⟨rfl,H1.out,H2.out⟩

theorem aIL (b most:Nat)(l:List Nat)(bad:Bool)(w:World)(h:aE w b rb l bad)(hne:0<l.length)(hbad:cH l) :
  Calls Tryz.prog 72 #[.pointer (some ⟨b,0,none⟩),.int .u64 most,.bool false] w (gU b rb most l bad w):=by
 rw[jU fun h=>h.1 hbad];have H:=hid h;obtain⟨v,c0,hB,_⟩:=h.ex;obtain⟨b1,o1,c,rfl,hle,hbs,hcell⟩:=hB.cA hne;have d0:w.cell? ⟨b1,o1,none⟩=some (.int .u8 (l.getD 0 0:Nat)):=hcell 0 hne;have d1:1<l.length->w.cell? ⟨b1,o1+1,none⟩=some (.int .u8 (l.getD 1 0:Nat)):=fun h=>hcell 1 h;have x0:=hB.aT 0;have x1:=hB.aT 1;have hlb:(l.length:Int)<=2097152:=by have:=hB.small;omega
 have hl0:((l.length:Int)==0)=false:=beq_eq_false_iff_ne.2 (by omega);have i0:(0:Int)<(l.length:Int):=by omega
 unfold cH at hbad;generalize l.getD 0 0=x at d0 x0 hbad;generalize l.getD 1 0=y at d1 x1 hbad;have key:((8:Int)<(x:Int))\/((x:Int)<=8/\(l.length:Int)<=(x:Int))\/((x:Int)<=8/\(x:Int)<(l.length:Int)/\(0:Int)<(x:Int)/\((y:Int)==0)=true):=by
  by_cases h8:8<x
  ·exact .inl (by omega)
  ·by_cases hll:l.length<=x
   ·exact .inr (.inl ⟨by omega,by omega⟩)
   ·exact .inr (.inr ⟨by omega,by omega,by omega,by simp;omega⟩)
 clear h hB hcell hle hbad hne;rcases key with k1|⟨k1,k2⟩|⟨k1,k2,k3,k4⟩
 ·clear d1;go_enter Tryz.func72,Tryz.ntmps72;go_wp2_with fail;refine(bS b l bad _ H.out).mono ?_;rintro e w1 ⟨rfl,rfl⟩;go_wp2_with fail;refine(cU b l bad _ H.out).mono ?_;rintro e w1 ⟨rfl,h1,h2⟩;have H1:=hid h1;have H2:=hid h2;clear h1 h2;go_wp2_with fail
  go_ret2
  exact⟨rfl,H1.out,H2.out⟩
 ·clear d1;go_enter Tryz.func72,Tryz.ntmps72;go_wp2_with fail;refine(bS b l bad _ H.out).mono ?_;rintro e w1 ⟨rfl,rfl⟩;go_wp2_with fail;refine(cU b l bad _ H.out).mono ?_;rintro e w1 ⟨rfl,h1,h2⟩;have H1:=hid h1;have H2:=hid h2;clear h1 h2;go_wp2_with fail
  go_ret2
  exact⟨rfl,H1.out,H2.out⟩
 ·have d1':=d1 (by omega);have i1:(1:Int)<(l.length:Int):=by omega
  clear d1;go_enter Tryz.func72,Tryz.ntmps72;go_wp2_with fail;refine(bS b l bad _ H.out).mono ?_;rintro e w1 ⟨rfl,rfl⟩;go_wp2_with fail;refine(cU b l bad _ H.out).mono ?_;rintro e w1 ⟨rfl,h1,h2⟩;have H1:=hid h1;have H2:=hid h2;clear h1 h2;go_wp2_with fail
  go_ret2
  exact⟨rfl,H1.out,H2.out⟩

theorem aIM (b most:Nat)(l:List Nat)(bad:Bool)(w:World)(h:aE w b rb l bad)(hb:¬cH l)(hmost:most<18446744073709551616) :
  Calls Tryz.prog 72 #[.pointer (some ⟨b,0,none⟩),.int .u64 most,.bool false] w (gU b rb most l bad w):=by
 have H:=hid h;obtain⟨v,c0,hB,hvb⟩:=h.ex;have f0:=h.free0;have hx8:l.getD 0 0<=8/\l.getD 0 0<l.length:=by unfold cH at hb;omega
 have hy:0<l.getD 0 0->l.getD 1 0≠0:=by unfold cH at hb;omega
 obtain⟨v1,hB1,hcut1⟩:=hB.aJz Tryz.u8s 1 (l.getD 0 0+1) (by omega) (by omega);obtain⟨v2,hB2,hv2,hcut2⟩:=hB.qN Tryz.u8s (l.getD 0 0+1) (by omega);have e1:(l.take (l.getD 0 0+1)).drop 1=(l.drop 1).take (l.getD 0 0):=by rw[List.drop_take];congr 1
 rw[e1]at hB1;have HX:Hid (eX l=beN ((l.drop 1).take (l.getD 0 0))):=hid rfl;obtain⟨b1,o1,c,rfl,hle,hbs,hcell⟩:=hB.cA (by omega);have d0:w.cell? ⟨b1,o1,none⟩=some (.int .u8 (l.getD 0 0:Nat)):=hcell 0 (by omega);have d1:0<l.getD 0 0->w.cell? ⟨b1,o1+1,none⟩=some (.int .u8 (l.getD 1 0:Nat)):=fun h=>hcell 1 (by omega);have x0:=hB.aT 0;have x1:=hB.aT 1;have hlb:(l.length:Int)<=2097152:=by have:=hB.small;omega
 have hl0:((l.length:Int)==0)=false:=beq_eq_false_iff_ne.2 (by omega);have i0:(0:Int)<(l.length:Int):=by omega
 have hlen1:((l.drop 1).take (l.getD 0 0)).length=l.getD 0 0:=by rw[List.length_take,List.length_drop];omega
 have HG:Hid (cI most l ↔ eX l<=most):=hid ⟨fun h=>h.2,fun h=>⟨hb,h⟩⟩;have hv2':l.drop (l.getD 0 0+1) = []\/v2.ownBlock=some rb:=by rw[hv2];exact hvb.imp (fun h=>by rw[h];simp) id
 have HB2:=hid hB2;clear h hB hcell hle hb e1 hvb hv2 hB2;generalize hrest:l.drop (l.getD 0 0+1)=rest at HB2 hv2';generalize hbl:(l.drop 1).take (l.getD 0 0)=bl at hB1 HX hlen1;have HREST:=hid hrest;clear hbl hrest;generalize hxx:l.getD 0 0=x at *
 have HXX:=hid hxx;clear hxx;generalize l.getD 1 0=y at *
 have key:(x:Int)<=0\/((0:Int)<(x:Int)/\((y:Int)==0)=false/\w.cell? ⟨b1,o1+1,none⟩=some (.int .u8 (y:Nat))/\(1:Int)<(l.length:Int)):=by
  by_cases h0:x=0
  ·exact .inl (by omega)
  ·exact .inr ⟨by omega,by have:=hy (by omega);simp;omega,d1 (by omega),by omega⟩
 have k8:(x:Int)<=8:=by omega
 have kl:(x:Int)<(l.length:Int):=by omega
 obtain⟨a1,c1,rfl,_⟩:=hB1.shape;have hcut1':∀w',(Instr.slice 22 (.slice (some ⟨b1,o1,none⟩) l.length c) (some (.int .i64 1)) (some (.int .i64 ((x:Int)+1))) none).run Tryz.prog w' = .ok (.slice a1 bl.length c1) w':=hcut1;have hcut2':∀w',(Instr.slice 22 (.slice (some ⟨b1,o1,none⟩) l.length c) (some (.int .i64 ((x:Int)+1))) none none).run Tryz.prog w' = .ok v2 w':=hcut2;have HL1:=hid hlen1;have HB1:=hid hB1;have HBC:=hid hB1.cells.2.2;have hx8':bl.length<=8:=by omega
 obtain⟨a2,c2,rfl,_⟩:=HB2.out.shape;clear hcut1 hcut2 hlen1 hB1 hx8 hy d1;have HSM:Hid (∀k (h:k<bl.length),beN (bl.take k)*256+bl[k]<18446744073709551616):=hid fun k h=>by
  rw[<- fL bl k h];exact mK (fun c hc=>HB1.out.lt c (List.mem_of_mem_take hc)) (by rw[List.length_take];omega)
 have HSET:Hid (aE (w.setCell ⟨b,0,none⟩ (.slice a2 rest.length c2)) b rb rest bad):=hid (H.out.set HB2.out hv2');clear hv2';by_cases hgm:eX l<=most
 ·rw[sN (HG.out.2 hgm)];rw[HX.out]at hgm ⊢;have hgi:¬(most:Int)<((beN bl:Nat):Int):=by omega
  have HMOST:=hid hmost;have HD:Hid (l.drop (l.getD 0 0+1)=rest):=hid (by rw[HXX.out];exact HREST.out);rw[HD.out];clear hgm hmost;rcases key with k1|⟨k1,k2,k3,k4⟩
  all_goals
   go_enter Tryz.func72,Tryz.ntmps72;go_wp2_with fail;refine(bS b l bad _ H.out).mono ?_;rintro e w1 ⟨rfl,rfl⟩;go_wp2_with fail
   go_loop [6,62] (fun n i=>∃k:Nat,k<=bl.length/\i = .int .i64 k/\n = .int .u64 (beN (bl.take k):Nat)) (fun _ i=>bl.length-(intOf i).toNat)
   case atStart=>exact⟨0,Nat.zero_le _,rfl,rfl⟩
   case round =>
    obtain⟨k,hk,rfl,rfl⟩:=hrel;by_cases hlt:k<bl.length
    ·obtain⟨b2,o2,rfl,hcell⟩:=HBC.out k hlt;have hx:bl[k]<256:=HB1.out.lt _ (List.getElem_mem hlt);have hsm:=HSM.out k hlt;have HS:=hid (fL bl k hlt);generalize bl[k]=z at hcell hx HS hsm;generalize beN (bl.take k)=n at HS hsm ⊢;have HV:=hid (tG n z hx hsm);clear hsm;go_wp2_with fail
     go_round
     case rel=>exact⟨k+1,by omega,by go_num,by rw[HV.out,HS.out]⟩
     case measure=>simp[intOf];omega
    ·obtain rfl:k=bl.length:=by omega
     go_wp2_with fail
     go_ret2
     exact⟨rfl,HSET.out,Kept.setCell w ⟨b,0,none⟩ _⟩
 ·rw[jU fun h=>hgm (HG.out.1 h)];rw[HX.out]at hgm;have hgi:(most:Int)<((beN bl:Nat):Int):=by omega
  have HMOST:=hid hmost;clear hgm hmost;rcases key with k1|⟨k1,k2,k3,k4⟩
  all_goals
   go_enter Tryz.func72,Tryz.ntmps72;go_wp2_with fail;refine(bS b l bad _ H.out).mono ?_;rintro e w1 ⟨rfl,rfl⟩;go_wp2_with fail
   go_loop [6,62] (fun n i=>∃k:Nat,k<=bl.length/\i = .int .i64 k/\n = .int .u64 (beN (bl.take k):Nat)) (fun _ i=>bl.length-(intOf i).toNat)
   case atStart=>exact⟨0,Nat.zero_le _,rfl,rfl⟩
   case round =>
    obtain⟨k,hk,rfl,rfl⟩:=hrel;by_cases hlt:k<bl.length
    ·obtain⟨b2,o2,rfl,hcell⟩:=HBC.out k hlt;have hx:bl[k]<256:=HB1.out.lt _ (List.getElem_mem hlt);have hsm:=HSM.out k hlt;have HS:=hid (fL bl k hlt);generalize bl[k]=z at hcell hx HS hsm;generalize beN (bl.take k)=n at HS hsm ⊢;have HV:=hid (tG n z hx hsm);clear hsm;go_wp2_with fail
     go_round
     case rel=>exact⟨k+1,by omega,by go_num,by rw[HV.out,HS.out]⟩
     case measure=>simp[intOf];omega
    ·obtain rfl:k=bl.length:=by omega
     go_wp2_with fail;refine(cU b l bad _ H.out).mono ?_;rintro e w1 ⟨rfl,h1,h2⟩;have H1:=hid h1;have H2:=hid h2;clear h1 h2;go_wp2_with fail
     go_ret2
     exact⟨rfl,H1.out,H2.out⟩

theorem vC (b most:Nat)(l:List Nat)(bad:Bool)(w:World)(h:aE w b rb l bad)(hmost:most<18446744073709551616) :
  Calls Tryz.prog 72 #[.pointer (some ⟨b,0,none⟩),.int .u64 most,.bool false] w (gU b rb most l bad w):=by
 by_cases h0:l = []
 ·subst h0;exact aIK b most bad w h
 ·by_cases hb:cH l
  ·exact aIL b most l bad w h (List.length_pos_iff.2 h0) hb
  ·exact aIM b most l bad w h hb hmost

theorem pC (b:Nat)(m:Int)(l:List Nat)(bad:Bool)(w:World)(h:aE w b rb l bad)(hm0:0<=m)(hmost:m<18446744073709551616) :
  Calls Tryz.prog 23 #[.pointer (some ⟨b,0,none⟩),.int .u64 m] w fun e w'=>e = .returned (.int .u64 (aB m.toNat l))/\aE w' b rb (eC m.toNat l) (bad || lI m.toNat l)/\Kept w w' (fun k=>k=b):=by
 obtain⟨n,rfl⟩:=Int.eq_ofNat_of_zero_le hm0;have C:=hid (vC b n l bad w h (by omega));rw[Int.toNat_natCast];clear h hm0 hmost;go_enter Tryz.func23,Tryz.ntmps23;go_wp2_with fail;refine C.out.mono ?_;rintro e w1 ⟨rfl,h1,h2⟩;have H1:=hid h1;have H2:=hid h2;clear h1 h2;go_wp2_with fail;go_ret;exact⟨rfl,H1.out,H2.out⟩
variable {rb:Nat}

theorem rD (v:Value)(l:List Nat)(w:World)(hB:Bytes w v l)(hrb:l = []\/v.ownBlock=some rb)(hne:rb≠w.heap.size) :
  Calls Tryz.prog 22 #[v] w fun e w'=>e = .returned (.pointer (some ⟨w.heap.size,0,none⟩))/\aE w' w.heap.size rb l false/\Below w.heap.size w w':=by
 have H:=hid hB;have HV:=hid hrb;have HN:=hid hne;obtain⟨a,c,rfl,_⟩:=hB.shape;clear hB hrb hne;go_enter Tryz.func22,Tryz.ntmps22;go_wp2_with fail;go_ret;refine⟨rfl,⟨⟨_,by go_cell,H.out.alloc _,HV.out⟩,HN.out,by go_cell,?_,?_⟩,(Below.refl _ _).alloc (Nat.le_refl _) _⟩
 ·simp
 ·simp

theorem aIN (b n:Nat)(l:List Nat)(bad:Bool)(w:World)(h:aE w b rb l bad)(hn:n<=l.length) :
  Calls Tryz.prog 119 #[.pointer (some ⟨b,0,none⟩),.int .i64 n] w fun e w'=>∃v,e = .returned v/\Bytes w' v (l.take n)/\aE w' b rb (l.drop n) bad/\Kept w w' (fun k=>k=b):=by
 have H:=hid h;obtain⟨v,c0,hB,hvb⟩:=h.ex;have f0:=h.free0;obtain⟨v1,hB1,hcut1⟩:=hB.aAI Tryz.u8s n hn;obtain⟨v2,hB2,hv2,hcut2⟩:=hB.qN Tryz.u8s n hn;have hv2':l.drop n = []\/v2.ownBlock=some rb:=by rw[hv2];exact hvb.imp (fun h=>by rw[h];simp) id
 have hlb:(l.length:Int)<=2097152:=by have:=hB.small;omega
 have hn':(n:Int)<=(l.length:Int):=by omega
 have hn0:¬(n:Int)<0:=by omega
 obtain⟨a,c,rfl,_⟩:=hB.shape;obtain⟨a2,c2,rfl,_⟩:=hB2.shape;rw[List.length_drop]at hcut2 hB2 hv2';have HB1:=hid hB1;have HB2:=hid hB2;have HV2:=hid hv2';have hs1:(ints (l.take n)).length<=2097152:=by rw[aF];exact hB1.small
 have HC0:=hid c0;have HF0:=hid f0;clear h hB hvb hn hB1 hB2 hv2 hv2';go_enter Tryz.func119,Tryz.ntmps119;go_wp2_with fail;refine(bS b l bad _ H.out).mono ?_;rintro e w1 ⟨rfl,rfl⟩;go_wp2_with fail;refine(vY _ _ _ HB1.out.rd hs1).mono ?_;rintro e w1 ⟨v3,rfl,hown,hb1⟩;have O1:=hid hown;have B1:=hid hb1;clear hown hb1 c0 f0;have c0:=Below.at B1.out HC0.out H.out.lt;have f0:w1.frozen? ⟨b,0,none⟩=false:=(H.out.below B1.out).free0;have O2:Hid (Bytes w1 v3 (l.take n)):=hid (Bytes.gE O1.out HB1.out.lt HB1.out.small);have O3:Hid (v3.ownBlock≠some b):=hid fun e=>by have:=(O1.out.lt b e).1;have:=H.out.lt;omega
 go_wp2_with fail;go_ret;refine⟨_,rfl,O2.out.kept (Kept.setCell _ ⟨b,0,none⟩ _) fun k hk e=>O3.out (by rw[hk,e]),(H.out.below B1.out).set (HB2.out.below B1.out) HV2.out,?_⟩;exact(Kept.aY B1.out (S:=fun k=>k=b) (fun k h1 h2=>by omega)).trans (Kept.setCell _ ⟨b,0,none⟩ _)

theorem eU (b:Nat)(l:List Nat)(bad:Bool)(w:World)(h:aE w b rb l bad) :
  Calls Tryz.prog 27 #[.pointer (some ⟨b,0,none⟩)] w fun e w'=>e = .returned (.int .i64 (hP l bad))/\w=w':=by
 obtain⟨v,c0,hB,_⟩:=h.ex;have c1:=h.bad;have hlb:(l.length:Int)<=2097152:=by have:=hB.small;omega
 obtain⟨a,c,rfl,_⟩:=hB.shape;cases bad with
 | true =>
  have HE:Hid (hP l true=20):=hid (by simp[hP]);clear h hB;go_enter Tryz.func27,Tryz.ntmps27;go_wp2_with fail;go_ret;exact⟨by rw[HE.out];rfl,rfl⟩
 | false =>
  by_cases h0:0<l.length
  ·have HE:Hid (hP l false=20):=hid (if_pos (.inr h0));have hl:(0:Int)<(l.length:Int):=by omega
   clear h hB h0;go_enter Tryz.func27,Tryz.ntmps27;go_wp2_with fail;go_ret;exact⟨by rw[HE.out];rfl,rfl⟩
  ·have HE:Hid (hP l false=0):=hid (if_neg fun h=>h.elim (fun h=>by cases h) h0);have hl:¬(0:Int)<(l.length:Int):=by omega
   clear h hB h0;go_enter Tryz.func27,Tryz.ntmps27;go_wp2_with fail;go_ret;exact⟨by rw[HE.out];rfl,rfl⟩

theorem zS (b most:Nat)(l:List Nat)(bad:Bool)(w:World)(h:aE w b rb l bad)(hm:most<=1000000) :
  Calls Tryz.prog 73 #[.pointer (some ⟨b,0,none⟩),.int .i64 most] w fun e w'=>e = .returned (.string (eY (dY most l)))/\aE w' b rb (kD most l) (bad || kC most l)/\Kept w w' (fun k=>k=b):=by
 have C:=hid (pC b most l bad w h (by omega) (by omega));have hm':(most:Int)<=1000000:=by omega
 have hm0:¬(most:Int)<0:=by omega
 have hvm:((aB most l:Nat):Int)<=1000000:=by have:=aD most l;omega
 have HN:Hid ((most:Int).toNat=most):=hid (Int.toNat_natCast _);have hsm:(eC most l).length<=2097152:=by
  obtain⟨v,_,hB,_⟩:=h.ex;have:=xS most l;have:=hB.small;omega
 have hll:((eC most l).length:Int)<=2097152:=by omega
 clear h hm hsm;by_cases hg:eG most l
 ·have HG:=hid hg;have hgi:((aB most l:Nat):Int)<=((eC most l).length:Int):=by unfold eG at hg;omega
  have HV:Hid (dY most l=(eC most l).take (aB most l)/\kD most l=(eC most l).drop (aB most l)/\kC most l=lI most l):=hid (by simp[dY,kD,kC,hg]);have HGL:Hid (aB most l<=(eC most l).length):=hid hg;clear hg;go_enter Tryz.func73,Tryz.ntmps73;go_wp2_with fail;refine C.out.mono ?_;rintro e w1 ⟨rfl,h1,h2⟩;rw[HN.out]at h1 ⊢;have H1:=hid h1;have H2:=hid h2;clear h1 h2;go_wp2_with fail;refine(bS b _ _ _ H1.out).mono ?_;rintro e w2 ⟨rfl,rfl⟩;go_wp2_with fail;refine(aIN b (aB most l) _ _ _ H1.out HGL.out).mono ?_;rintro e w3 ⟨v3,rfl,hB3,h3,k3⟩;have HB3:=hid hB3;have H3:=hid h3;have K3:=hid k3;clear hB3 h3 k3
  go_wp2_with (refine fJ rfl 22 9 5 _ rfl Tryz.underlying22 Tryz.underlying5 Tryz.underlying9 _ _ rfl HB3.out ?_)
  go_ret;exact⟨by rw[HV.out.1];rfl,by rw[HV.out.2.1,HV.out.2.2];exact H3.out,H2.out.trans K3.out⟩
 ·have hgi:((eC most l).length:Int)<((aB most l:Nat):Int):=by unfold eG at hg;omega
  have HV:Hid (dY most l = []/\kD most l = []/\kC most l=true):=hid (by simp[dY,kD,kC,hg]);clear hg;go_enter Tryz.func73,Tryz.ntmps73;go_wp2_with fail;refine C.out.mono ?_;rintro e w1 ⟨rfl,h1,h2⟩;rw[HN.out]at h1 ⊢;have H1:=hid h1;have H2:=hid h2;clear h1 h2;go_wp2_with fail;refine(bS b _ _ _ H1.out).mono ?_;rintro e w2 ⟨rfl,rfl⟩;go_wp2_with fail;refine(cU b _ _ _ H1.out).mono ?_;rintro e w3 ⟨rfl,h3,k3⟩;have H3:=hid h3;have K3:=hid k3;clear h3 k3;go_wp2_with fail;go_ret;exact⟨by rw[HV.out.1];rfl,by rw[HV.out.2.1,HV.out.2.2,Bool.or_true];exact H3.out,H2.out.trans K3.out⟩
variable {rb:Nat}

def unm:List Nat->List Nat
 | []=>[]
 | c::r=>c % 128::r
theorem kE (l:List Nat):(unm l).getD 0 0=l.getD 0 0 % 128:=by cases l<;>rfl
theorem rM (l:List Nat):(unm l).getD 1 0=l.getD 1 0:=by cases l<;>rfl
theorem kM (l:List Nat):(unm l).length=l.length:=by cases l<;>rfl
theorem iH (k:Nat)(l:List Nat):(unm l).drop (k+1)=l.drop (k+1):=by cases l<;>simp[unm]
def zH (most:Nat)(l:List Nat):Bool:=if cI most (unm l) then decide ((128:Int)<=(l.getD 0 0:Nat)) else false
def gA (b rb most:Nat)(l:List Nat)(bad:Bool)(w:World):Ending->World->Prop:=fun e w'=>e = .returned (.tuple #[.int .u64 (aB most (unm l)),.bool (zH most l)])/\aE w' b rb (eC most (unm l)) (bad || lI most (unm l))/\Kept w w' (fun k=>k=b)
theorem jR {b most:Nat}{l:List Nat}{bad:Bool}{w:World}(h:¬cI most (unm l)):gA b rb most l bad w=fun e w'=>e = .returned (.tuple #[.int .u64 0,.bool false])/\aE w' b rb [] true/\Kept w w' (fun k=>k=b):=by
 unfold gA aB eC lI zH;simp[h]
theorem sJ {b most:Nat}{l:List Nat}{bad:Bool}{w:World}(h:cI most (unm l)):gA b rb most l bad w=fun e w'=>e = .returned (.tuple #[.int .u64 (eX (unm l)),.bool (decide ((128:Int)<=(l.getD 0 0:Nat)))])/\aE w' b rb (l.drop (l.getD 0 0 % 128+1)) bad/\Kept w w' (fun k=>k=b):=by
 unfold gA aB eC lI zH;rw[iH,kE];simp[h]

theorem aIH (b most:Nat)(bad:Bool)(w:World)(h:aE w b rb [] bad) :
  Calls Tryz.prog 72 #[.pointer (some ⟨b,0,none⟩),.int .u64 most,.bool true] w (gA b rb most [] bad w):=by
 rw[jR (by simp[cI,cH,unm])];have H:=hid h;clear h;go_enter Tryz.func72,Tryz.ntmps72;go_wp2_with fail;refine(bS b [] bad _ H.out).mono ?_;rintro e w1 ⟨rfl,rfl⟩;go_wp2_with fail;refine(cU b [] bad _ H.out).mono ?_;rintro e w1 ⟨rfl,h1,h2⟩;have H1:=hid h1;have H2:=hid h2;clear h1 h2;go_wp2_with fail
 go_ret2
 exact⟨rfl,H1.out,H2.out⟩

theorem aII (b most:Nat)(l:List Nat)(bad:Bool)(w:World)(h:aE w b rb l bad)(hne:0<l.length)(hbad:cH (unm l)) :
  Calls Tryz.prog 72 #[.pointer (some ⟨b,0,none⟩),.int .u64 most,.bool true] w (gA b rb most l bad w):=by
 rw[jR fun h=>h.1 hbad];have H:=hid h;obtain⟨v,c0,hB,_⟩:=h.ex;obtain⟨b1,o1,c,rfl,hle,hbs,hcell⟩:=hB.cA hne;have d0:w.cell? ⟨b1,o1,none⟩=some (.int .u8 (l.getD 0 0:Nat)):=hcell 0 hne;have d1:1<l.length->w.cell? ⟨b1,o1+1,none⟩=some (.int .u8 (l.getD 1 0:Nat)):=fun h=>hcell 1 h;have x0:=hB.aT 0;have x1:=hB.aT 1;have hlb:(l.length:Int)<=2097152:=by have:=hB.small;omega
 have hl0:((l.length:Int)==0)=false:=beq_eq_false_iff_ne.2 (by omega);have i0:(0:Int)<(l.length:Int):=by omega
 unfold cH at hbad;rw[kE,rM,kM]at hbad;generalize l.getD 0 0=z at d0 x0 hbad;generalize l.getD 1 0=y at d1 x1 hbad;have hz:(z:Int).tmod 128=((z % 128:Nat):Int):=(Int.ofNat_tmod z 128).symm;generalize z % 128=x at hbad hz;have key:((8:Int)<(x:Int))\/((x:Int)<=8/\(l.length:Int)<=(x:Int))\/((x:Int)<=8/\(x:Int)<(l.length:Int)/\(0:Int)<(x:Int)/\((y:Int)==0)=true):=by
  by_cases h8:8<x
  ·exact .inl (by omega)
  ·by_cases hll:l.length<=x
   ·exact .inr (.inl ⟨by omega,by omega⟩)
   ·exact .inr (.inr ⟨by omega,by omega,by omega,by simp;omega⟩)
 clear h hB hcell hle hbad hne;rcases key with k1|⟨k1,k2⟩|⟨k1,k2,k3,k4⟩
 ·clear d1;go_enter Tryz.func72,Tryz.ntmps72;go_wp2_with fail;refine(bS b l bad _ H.out).mono ?_;rintro e w1 ⟨rfl,rfl⟩;go_wp2_with fail;refine(cU b l bad _ H.out).mono ?_;rintro e w1 ⟨rfl,h1,h2⟩;have H1:=hid h1;have H2:=hid h2;clear h1 h2;go_wp2_with fail
  go_ret2
  exact⟨rfl,H1.out,H2.out⟩
 ·clear d1;go_enter Tryz.func72,Tryz.ntmps72;go_wp2_with fail;refine(bS b l bad _ H.out).mono ?_;rintro e w1 ⟨rfl,rfl⟩;go_wp2_with fail;refine(cU b l bad _ H.out).mono ?_;rintro e w1 ⟨rfl,h1,h2⟩;have H1:=hid h1;have H2:=hid h2;clear h1 h2;go_wp2_with fail
  go_ret2
  exact⟨rfl,H1.out,H2.out⟩
 ·have d1':=d1 (by omega);have i1:(1:Int)<(l.length:Int):=by omega
  clear d1;go_enter Tryz.func72,Tryz.ntmps72;go_wp2_with fail;refine(bS b l bad _ H.out).mono ?_;rintro e w1 ⟨rfl,rfl⟩;go_wp2_with fail;refine(cU b l bad _ H.out).mono ?_;rintro e w1 ⟨rfl,h1,h2⟩;have H1:=hid h1;have H2:=hid h2;clear h1 h2;go_wp2_with fail
  go_ret2
  exact⟨rfl,H1.out,H2.out⟩

theorem aIJ (b most:Nat)(l:List Nat)(bad:Bool)(w:World)(h:aE w b rb l bad)(hb:¬cH (unm l))(hmost:most<18446744073709551616) :
  Calls Tryz.prog 72 #[.pointer (some ⟨b,0,none⟩),.int .u64 most,.bool true] w (gA b rb most l bad w):=by
 have H:=hid h;obtain⟨v,c0,hB,hvb⟩:=h.ex;have f0:=h.free0;have hx8:l.getD 0 0 % 128<=8/\l.getD 0 0 % 128<l.length:=by unfold cH at hb;rw[kE,rM,kM]at hb;omega
 have hy:0<l.getD 0 0 % 128->l.getD 1 0≠0:=by unfold cH at hb;rw[kE,rM,kM]at hb;omega
 have hz:(l.getD 0 0:Int).tmod 128=((l.getD 0 0 % 128:Nat):Int):=(Int.ofNat_tmod (l.getD 0 0) 128).symm;obtain⟨v1,hB1,hcut1⟩:=hB.aJz Tryz.u8s 1 (l.getD 0 0 % 128+1) (by omega) (by omega);obtain⟨v2,hB2,hv2,hcut2⟩:=hB.qN Tryz.u8s (l.getD 0 0 % 128+1) (by omega);have e1:(l.take (l.getD 0 0 % 128+1)).drop 1=(l.drop 1).take (l.getD 0 0 % 128):=by rw[List.drop_take];congr 1
 rw[e1]at hB1;have HX:Hid (eX (unm l)=beN ((l.drop 1).take (l.getD 0 0 % 128))):=hid (by unfold eX;rw[iH 0,kE]);obtain⟨b1,o1,c,rfl,hle,hbs,hcell⟩:=hB.cA (by omega);have d0:w.cell? ⟨b1,o1,none⟩=some (.int .u8 (l.getD 0 0:Nat)):=hcell 0 (by omega);have d1:0<l.getD 0 0 % 128->w.cell? ⟨b1,o1+1,none⟩=some (.int .u8 (l.getD 1 0:Nat)):=fun h=>hcell 1 (by omega);have x0:=hB.aT 0;have x1:=hB.aT 1;have hlb:(l.length:Int)<=2097152:=by have:=hB.small;omega
 have hl0:((l.length:Int)==0)=false:=beq_eq_false_iff_ne.2 (by omega);have i0:(0:Int)<(l.length:Int):=by omega
 have hlen1:((l.drop 1).take (l.getD 0 0 % 128)).length=l.getD 0 0 % 128:=by rw[List.length_take,List.length_drop];omega
 have HG:Hid (cI most (unm l) ↔ eX (unm l)<=most):=hid ⟨fun h=>h.2,fun h=>⟨hb,h⟩⟩;have hv2':l.drop (l.getD 0 0 % 128+1) = []\/v2.ownBlock=some rb:=by rw[hv2];exact hvb.imp (fun h=>by rw[h];simp) id
 have HB2:=hid hB2;clear h hB hcell hle hb e1 hvb hv2 hB2;generalize hrest:l.drop (l.getD 0 0 % 128+1)=rest at HB2 hv2';generalize hbl:(l.drop 1).take (l.getD 0 0 % 128)=bl at hB1 HX hlen1;have HREST:=hid hrest;clear hbl hrest;generalize hxx:l.getD 0 0 % 128=x at *
 generalize hzz:l.getD 0 0=z at *
 have HXX:=hid hxx;clear hxx;generalize l.getD 1 0=y at *
 have key:(x:Int)<=0\/((0:Int)<(x:Int)/\((y:Int)==0)=false/\w.cell? ⟨b1,o1+1,none⟩=some (.int .u8 (y:Nat))/\(1:Int)<(l.length:Int)):=by
  by_cases h0:x=0
  ·exact .inl (by omega)
  ·exact .inr ⟨by omega,by have:=hy (by omega);simp;omega,d1 (by omega),by omega⟩
 have k8:(x:Int)<=8:=by omega
 have kl:(x:Int)<(l.length:Int):=by omega
 obtain⟨a1,c1,rfl,_⟩:=hB1.shape;have hcut1':∀w',(Instr.slice 22 (.slice (some ⟨b1,o1,none⟩) l.length c) (some (.int .i64 1)) (some (.int .i64 ((x:Int)+1))) none).run Tryz.prog w' = .ok (.slice a1 bl.length c1) w':=hcut1;have hcut2':∀w',(Instr.slice 22 (.slice (some ⟨b1,o1,none⟩) l.length c) (some (.int .i64 ((x:Int)+1))) none none).run Tryz.prog w' = .ok v2 w':=hcut2;have HL1:=hid hlen1;have HB1:=hid hB1;have HBC:=hid hB1.cells.2.2;have hx8':bl.length<=8:=by omega
 obtain⟨a2,c2,rfl,_⟩:=HB2.out.shape;clear hcut1 hcut2 hlen1 hB1 hx8 hy d1;have HSM:Hid (∀k (h:k<bl.length),beN (bl.take k)*256+bl[k]<18446744073709551616):=hid fun k h=>by
  rw[<- fL bl k h];exact mK (fun c hc=>HB1.out.lt c (List.mem_of_mem_take hc)) (by rw[List.length_take];omega)
 have HSET:Hid (aE (w.setCell ⟨b,0,none⟩ (.slice a2 rest.length c2)) b rb rest bad):=hid (H.out.set HB2.out hv2');clear hv2';by_cases hgm:eX (unm l)<=most
 ·rw[sJ (HG.out.2 hgm)];rw[HX.out]at hgm ⊢;have hgi:¬(most:Int)<((beN bl:Nat):Int):=by omega
  have HMOST:=hid hmost;rw[hzz,HXX.out,HREST.out];clear hgm hmost;rcases key with k1|⟨k1,k2,k3,k4⟩
  all_goals
   go_enter Tryz.func72,Tryz.ntmps72;go_wp2_with fail;refine(bS b l bad _ H.out).mono ?_;rintro e w1 ⟨rfl,rfl⟩;go_wp2_with fail
   go_loop [6,62] (fun n i=>∃k:Nat,k<=bl.length/\i = .int .i64 k/\n = .int .u64 (beN (bl.take k):Nat)) (fun _ i=>bl.length-(intOf i).toNat)
   case atStart=>exact⟨0,Nat.zero_le _,rfl,rfl⟩
   case round =>
    obtain⟨k,hk,rfl,rfl⟩:=hrel;by_cases hlt:k<bl.length
    ·obtain⟨b2,o2,rfl,hcell⟩:=HBC.out k hlt;have hx:bl[k]<256:=HB1.out.lt _ (List.getElem_mem hlt);have hsm:=HSM.out k hlt;have HS:=hid (fL bl k hlt);generalize bl[k]=z at hcell hx HS hsm;generalize beN (bl.take k)=n at HS hsm ⊢;have HV:=hid (tG n z hx hsm);clear hsm;go_wp2_with fail
     go_round
     case rel=>exact⟨k+1,by omega,by go_num,by rw[HV.out,HS.out]⟩
     case measure=>simp[intOf];omega
    ·obtain rfl:k=bl.length:=by omega
     go_wp2_with fail
     go_ret2
     exact⟨rfl,HSET.out,Kept.setCell w ⟨b,0,none⟩ _⟩
 ·rw[jR fun h=>hgm (HG.out.1 h)];rw[HX.out]at hgm;have hgi:(most:Int)<((beN bl:Nat):Int):=by omega
  have HMOST:=hid hmost;clear hgm hmost;rcases key with k1|⟨k1,k2,k3,k4⟩
  all_goals
   go_enter Tryz.func72,Tryz.ntmps72;go_wp2_with fail;refine(bS b l bad _ H.out).mono ?_;rintro e w1 ⟨rfl,rfl⟩;go_wp2_with fail
   go_loop [6,62] (fun n i=>∃k:Nat,k<=bl.length/\i = .int .i64 k/\n = .int .u64 (beN (bl.take k):Nat)) (fun _ i=>bl.length-(intOf i).toNat)
   case atStart=>exact⟨0,Nat.zero_le _,rfl,rfl⟩
   case round =>
    obtain⟨k,hk,rfl,rfl⟩:=hrel;by_cases hlt:k<bl.length
    ·obtain⟨b2,o2,rfl,hcell⟩:=HBC.out k hlt;have hx:bl[k]<256:=HB1.out.lt _ (List.getElem_mem hlt);have hsm:=HSM.out k hlt;have HS:=hid (fL bl k hlt);generalize bl[k]=z at hcell hx HS hsm;generalize beN (bl.take k)=n at HS hsm ⊢;have HV:=hid (tG n z hx hsm);clear hsm;go_wp2_with fail
     go_round
     case rel=>exact⟨k+1,by omega,by go_num,by rw[HV.out,HS.out]⟩
     case measure=>simp[intOf];omega
    ·obtain rfl:k=bl.length:=by omega
     go_wp2_with fail;refine(cU b l bad _ H.out).mono ?_;rintro e w1 ⟨rfl,h1,h2⟩;have H1:=hid h1;have H2:=hid h2;clear h1 h2;go_wp2_with fail
     go_ret2
     exact⟨rfl,H1.out,H2.out⟩

theorem vA (b most:Nat)(l:List Nat)(bad:Bool)(w:World)(h:aE w b rb l bad)(hmost:most<18446744073709551616) :
  Calls Tryz.prog 72 #[.pointer (some ⟨b,0,none⟩),.int .u64 most,.bool true] w (gA b rb most l bad w):=by
 by_cases h0:l = []
 ·subst h0;exact aIH b most bad w h
 ·by_cases hb:cH (unm l)
  ·exact aII b most l bad w h (List.length_pos_iff.2 h0) hb
  ·exact aIJ b most l bad w h hb hmost
def iE:Nat:=9223372036854775807
def gN (l:List Nat):Int:=if zH iE l then -1-(aB iE (unm l):Int) else aB iE (unm l)
def zD (l:List Nat):List Nat:=eC iE (unm l)
def aIf (l:List Nat):Bool:=lI iE (unm l)
theorem uF (l:List Nat):-9223372036854775808<=gN l/\gN l<9223372036854775808:=by
 have:=aD iE (unm l);unfold gN;unfold iE at *
 split<;>omega
theorem aIG (b:Nat)(l:List Nat)(bad:Bool)(w:World)(h:aE w b rb l bad) :
  Calls Tryz.prog 24 #[.pointer (some ⟨b,0,none⟩)] w fun e w'=>e = .returned (.int .i64 (gN l))/\aE w' b rb (zD l) (bad || aIf l)/\Kept w w' (fun k=>k=b):=by
 have C:=hid (vA b iE l bad w h (by decide));have hle:(aB iE (unm l):Int)<=9223372036854775807:=by have:=aD iE (unm l);unfold iE at *;omega
 unfold gA at C;unfold gN zD aIf;rw[show ((iE:Nat):Int)=9223372036854775807 from rfl]at C;generalize aB iE (unm l)=n at C hle;clear h;generalize zH iE l=m at C ⊢;cases m
 all_goals
  go_enter Tryz.func24,Tryz.ntmps24;go_wp2_with fail;refine C.out.mono ?_;rintro e w1 ⟨rfl,h1,h2⟩;have H1:=hid h1;have H2:=hid h2;clear h1 h2;go_wp2_with fail;go_ret;exact⟨by first|rfl|(simp;done),H1.out,H2.out⟩
theorem aIE (b:Nat)(l:List Nat)(bad:Bool)(w:World)(h:aE w b rb l bad) :
  Calls Tryz.prog 25 #[.pointer (some ⟨b,0,none⟩)] w fun e w'=>e = .returned (.bool bad)/\w=w':=by
 have c1:=h.bad;clear h;go_enter Tryz.func25,Tryz.ntmps25;go_wp2_with fail;go_ret;exact⟨rfl,rfl⟩
variable {rb:Nat}

theorem uQ (n z:Nat)(hn:n*256+z<18446744073709551616):IntKind.u64.wrap (IntKind.u64.wrap ((n:Int)*256)+(z:Int))=((n*256+z:Nat):Int):=by
 have h1:n*256<18446744073709551616:=Nat.lt_of_le_of_lt (Nat.le_add_right _ _) hn;have hw:IntKind.u64.wrap ((n:Int)*256)=((n*256:Nat):Int):=by
  rw[wrap_u64];exact Int.emod_eq_of_lt (Int.natCast_nonneg (n*256)) (Int.ofNat_lt.2 h1)
 rw[hw,wrap_u64];exact Int.emod_eq_of_lt (Int.natCast_nonneg (n*256+z)) (Int.ofNat_lt.2 hn)

theorem eP (b:Nat)(l:List Nat)(bad:Bool)(w:World)(h:aE w b rb l bad) :
  Calls Tryz.prog 78 #[.pointer (some ⟨b,0,none⟩)] w fun e w'=>e = .returned (.tuple #[])/\aE w' b rb [] true/\Kept w w' (fun k=>k=b):=by
 have H:=hid h;obtain⟨v,c0,_,_⟩:=h.ex;have c1:=h.bad;have f0:=h.free0;have f1:=h.free1;clear h;go_enter Tryz.func78,Tryz.ntmps78;go_wp2_with fail
 go_end0
 refine⟨rfl,(H.out.set (Bytes.nil _) (.inl rfl)).aI4 true,(Kept.setCell w ⟨b,0,none⟩ _).trans (Kept.setCell _ ⟨b,1,none⟩ _)⟩

theorem rF (b:Nat)(bad:Bool)(w:World)(h:aE w b rb [] bad) :
  Calls Tryz.prog 76 #[.pointer (some ⟨b,0,none⟩)] w fun e w'=>e = .returned (.tuple #[.int .u8 0,.bool false])/\w=w':=by
 obtain⟨v,c0,hB,_⟩:=h.ex;obtain⟨a,c,rfl,_⟩:=hB.shape;clear h hB;go_enter Tryz.func76,Tryz.ntmps76;go_wp2_with fail
 go_ret2
 exact⟨rfl,rfl⟩

theorem eN (b:Nat)(l:List Nat)(bad:Bool)(w:World)(h:aE w b rb l bad)(hne:0<l.length) :
  Calls Tryz.prog 76 #[.pointer (some ⟨b,0,none⟩)] w fun e w'=>e = .returned (.tuple #[.int .u8 (l.getD 0 0:Nat),.bool true])/\aE w' b rb (l.drop 1) bad/\Kept w w' (fun k=>k=b):=by
 have H:=hid h;obtain⟨v,c0,hB,hvb⟩:=h.ex;have f0:=h.free0;obtain⟨v2,hB2,hv2,hcut2⟩:=hB.qN Tryz.u8s 1 (by omega);have hv2':l.drop 1 = []\/v2.ownBlock=some rb:=by rw[hv2];exact hvb.imp (fun h=>by rw[h];simp) id
 obtain⟨b1,o1,c,rfl,hle,hbs,hcell⟩:=hB.cA hne;have d0:w.cell? ⟨b1,o1,none⟩=some (.int .u8 (l.getD 0 0:Nat)):=hcell 0 hne;have hlb:(l.length:Int)<=2097152:=by have:=hB.small;omega
 have hl0:((l.length:Int)==0)=false:=beq_eq_false_iff_ne.2 (by omega);have i0:(0:Int)<(l.length:Int):=by omega
 obtain⟨a2,c2,rfl,_⟩:=hB2.shape;have x0:=hB.aT 0;rw[List.length_drop]at hcut2 hB2 hv2';have hcut2':∀w',(Instr.slice 22 (.slice (some ⟨b1,o1,none⟩) l.length c) (some (.int .i64 1)) none none).run Tryz.prog w' = .ok (.slice a2 (l.length-1) c2) w':=hcut2;have HS:Hid (aE (w.setCell ⟨b,0,none⟩ (.slice a2 (l.length-1) c2)) b rb (l.drop 1) bad):=hid (H.out.set hB2 hv2');clear h hB hcell hle hcut2 hB2 hvb hv2' hv2 hne;generalize l.getD 0 0=x at d0 x0 ⊢;go_enter Tryz.func76,Tryz.ntmps76;go_wp2_with fail
 go_ret2
 exact⟨rfl,HS.out,Kept.setCell w ⟨b,0,none⟩ _⟩

def mN (n:Nat)(l:List Nat):Prop:=8<n\/l.length<n\/(0<n/\l.getD 0 0=0)

theorem pL (b n:Nat)(l:List Nat)(bad:Bool)(w:World)(h:aE w b rb l bad)(hb:mN n l)(hn:n<256) :
  Calls Tryz.prog 77 #[.pointer (some ⟨b,0,none⟩),.int .i64 n] w fun e w'=>e = .returned (.tuple #[.int .u64 0,.bool false])/\w=w':=by
 obtain⟨v,c0,hB,_⟩:=h.ex;obtain⟨a,c,rfl,hle⟩:=hB.shape;have hlb:(l.length:Int)<=2097152:=by have:=hB.small;omega
 have hn':(n:Int)<256:=by omega
 have key:(8:Int)<(n:Int)\/((n:Int)<=8/\(l.length:Int)<(n:Int))\/((n:Int)<=8/\(n:Int)<=(l.length:Int)/\(0:Int)<(n:Int) /\ ∃b1 o1,a=some ⟨b1,o1,none⟩/\(0:Int)<(l.length:Int)/\w.cell? ⟨b1,o1,none⟩=some (.int .u8 0)):=by
  unfold mN at hb;by_cases h8:8<n
  ·exact .inl (by omega)
  ·by_cases hl:l.length<n
   ·exact .inr (.inl ⟨by omega,by omega⟩)
   ·obtain⟨_,_,hc⟩:=hB.cells;obtain⟨b1,o1,e,hc0⟩:=hc 0 (by omega);refine .inr (.inr ⟨by omega,by omega,by omega,b1,o1,e,by omega,?_⟩);have h0:l.getD 0 0=0:=by omega
    rw[qS (by omega)]at h0;rw[h0]at hc0;exact hc0
 clear h hB hb hn;rcases key with k1|⟨k1,k2⟩|⟨k1,k2,k3,b1,o1,rfl,k4,k5⟩
 all_goals
  go_enter Tryz.func77,Tryz.ntmps77;go_wp2_with fail
  go_ret2
  exact⟨rfl,rfl⟩

theorem fQ (b n:Nat)(l:List Nat)(bad:Bool)(w:World)(h:aE w b rb l bad)(hb:¬mN n l) :
  Calls Tryz.prog 77 #[.pointer (some ⟨b,0,none⟩),.int .i64 n] w fun e w'=>e = .returned (.tuple #[.int .u64 (beN (l.take n):Nat),.bool true])/\aE w' b rb (l.drop n) bad/\Kept w w' (fun k=>k=b):=by
 have H:=hid h;obtain⟨v,c0,hB,hvb⟩:=h.ex;have f0:=h.free0;have hn8:n<=8/\n<=l.length:=by unfold mN at hb;omega
 have hn0:0<n->l.getD 0 0≠0:=by unfold mN at hb;omega
 obtain⟨v2,hB2,hv2,hcut2⟩:=hB.qN Tryz.u8s n (by omega);have hv2':l.drop n = []\/v2.ownBlock=some rb:=by rw[hv2];exact hvb.imp (fun h=>by rw[h];simp) id
 obtain⟨a,c,rfl,hle⟩:=hB.shape;obtain⟨a2,c2,rfl,_⟩:=hB2.shape;have HC:=hid hB.cells.2.2;have HLT:=hid hB.lt;have hlb:(l.length:Int)<=2097152:=by have:=hB.small;omega
 rw[List.length_drop]at hcut2 hB2 hv2';have HS:Hid (aE (w.setCell ⟨b,0,none⟩ (.slice a2 (l.length-n) c2)) b rb (l.drop n) bad):=hid (H.out.set hB2 hv2');have key:(n:Int)<=0\/((0:Int)<(n:Int) /\ ∃b1 o1,a=some ⟨b1,o1,none⟩/\(0:Int)<(l.length:Int)/\w.cell? ⟨b1,o1,none⟩=some (.int .u8 (l.getD 0 0:Nat))/\(((l.getD 0 0:Nat):Int)==0)=false):=by
  by_cases h0:0<n
  ·obtain⟨b1,o1,e,hc0⟩:=HC.out 0 (by omega);refine .inr ⟨by omega,b1,o1,e,by omega,?_,beq_eq_false_iff_ne.2 (by have:=hn0 h0;omega)⟩;rw[qS (by omega)];exact hc0
  ·exact .inl (by omega)
 have n8:(n:Int)<=8:=by omega
 have nl:(n:Int)<=(l.length:Int):=by omega
 have HNL:Hid (n<=l.length):=hid hn8.2;have HSM:Hid (∀k (h:k<l.length),k<n->beN (l.take k)*256+l[k]<18446744073709551616):=hid fun k h hk=>by
  rw[<- fL l k h];exact mK (fun c hc=>hB.lt c (List.mem_of_mem_take hc)) (by rw[List.length_take];omega)
 clear h hB hb hvb hle hB2 hv2 hv2' hn0 hn8;generalize l.getD 0 0=x0 at key;rcases key with k1|⟨k1,b1,o1,rfl,k2,k3,k4⟩
 ·go_enter Tryz.func77,Tryz.ntmps77;go_wp2_with fail
  go_loop [6,7] (fun x i=>∃k:Nat,k<=n/\i = .int .i64 k/\x = .int .u64 (beN (l.take k):Nat)) (fun _ i=>n-(intOf i).toNat)
  case atStart=>exact⟨0,Nat.zero_le _,rfl,rfl⟩
  case round =>
   obtain⟨k,hk,rfl,rfl⟩:=hrel;obtain rfl:k=n:=by omega
   go_wp2_with fail
   go_ret2
   exact⟨rfl,HS.out,Kept.setCell w ⟨b,0,none⟩ _⟩
 ·go_enter Tryz.func77,Tryz.ntmps77;go_wp2_with fail
  go_loop [6,7] (fun x i=>∃k:Nat,k<=n/\i = .int .i64 k/\x = .int .u64 (beN (l.take k):Nat)) (fun _ i=>n-(intOf i).toNat)
  case atStart=>exact⟨0,Nat.zero_le _,rfl,rfl⟩
  case round =>
   obtain⟨k,hk,rfl,rfl⟩:=hrel;by_cases hlt:k<n
   ·have hkl:k<l.length:=by have:=HNL.out;omega
    have hki:(k:Int)<(l.length:Int):=by omega
    have hk0:(0:Int)<=(k:Int):=by omega
    obtain⟨b2,o2,hb2,hcell⟩:=HC.out k hkl;cases hb2;have hx:l[k]<256:=HLT.out _ (List.getElem_mem hkl);have hsm:=HSM.out k hkl hlt;have HS2:=hid (fL l k hkl);generalize l[k]=z at hcell hx HS2 hsm;generalize beN (l.take k)=m at HS2 hsm ⊢;have HV:=hid (uQ m z hsm);clear hsm;go_wp2_with fail
    go_round
    case rel=>exact⟨k+1,by omega,by go_num,by rw[HV.out,HS2.out]⟩
    case measure=>simp[intOf];omega
   ·obtain rfl:k=n:=by omega
    go_wp2_with fail
    go_ret2
    exact⟨rfl,HS.out,Kept.setCell w ⟨b,0,none⟩ _⟩

theorem aIY (b most:Nat)(l:List Nat)(bad:Bool)(w:World)(h:aE w b rb l bad)(hg:¬cI most l)(hmost:most<18446744073709551616) :
  Calls Tryz.prog 29 #[.pointer (some ⟨b,0,none⟩),.int .u64 most] w fun e w'=>e = .returned (.int .u64 0)/\aE w' b rb [] true/\Kept w w' (fun k=>k=b):=by
 have H:=hid h;by_cases h0:l = []
 ·subst h0;clear h hg hmost;go_enter Tryz.func29,Tryz.ntmps29;go_wp2_with fail;refine(rF b bad _ H.out).mono ?_;rintro e w1 ⟨rfl,rfl⟩;go_wp2_with fail;refine(eP b [] bad _ H.out).mono ?_;rintro e w1 ⟨rfl,h1,h2⟩;have H1:=hid h1;have H2:=hid h2;clear h1 h2;go_wp2_with fail;go_ret;exact⟨rfl,H1.out,H2.out⟩
 ·have hne:=List.length_pos_iff.2 h0;have HNE:=hid hne;have hx:l.getD 0 0<256:=by obtain⟨v,_,hB,_⟩:=h.ex;exact hB.aT 0
  have hlen:(l.drop 1).length=l.length-1:=List.length_drop;have hd0:(l.drop 1).getD 0 0=l.getD 1 0:=by simp[List.getD_eq_getElem?_getD]
  by_cases hb:mN (l.getD 0 0) (l.drop 1)
  ·have HB:=hid hb;have HX:=hid hx;clear h hg hmost hb h0 hne hlen hd0;generalize hxx:l.getD 0 0=x at HB HX hx;have HXX:=hid hxx;clear hxx;go_enter Tryz.func29,Tryz.ntmps29;go_wp2_with fail;refine(eN b l bad _ H.out HNE.out).mono ?_;rintro e w1 ⟨rfl,h1,k1⟩;rw[HXX.out];have H1:=hid h1;have K1:=hid k1;clear h1 k1;go_wp2_with fail;refine(pL b x _ bad _ H1.out HB.out HX.out).mono ?_;rintro e w2 ⟨rfl,rfl⟩;go_wp2_with fail;refine(eP b _ bad _ H1.out).mono ?_;rintro e w2 ⟨rfl,h2,k2⟩;have H2:=hid h2;have K2:=hid k2;clear h2 k2;go_wp2_with fail;go_ret;exact⟨rfl,H2.out,K1.out.trans K2.out⟩
  ·have hgm:(most:Int)<((eX l:Nat):Int):=by
    have:¬cH l:=by unfold cH;unfold mN at hb;rw[hlen,hd0]at hb;omega
    have:¬eX l<=most:=fun h=>hg ⟨this,h⟩;omega
   have HB:=hid hb;have HV:Hid (beN ((l.drop 1).take (l.getD 0 0))=eX l):=hid rfl;have HMOST:=hid hmost;clear h hg hb h0 hne hlen hd0 hmost;generalize hxx:l.getD 0 0=x at HB HV hx;have HXX:=hid hxx;clear hxx;go_enter Tryz.func29,Tryz.ntmps29;go_wp2_with fail;refine(eN b l bad _ H.out HNE.out).mono ?_;rintro e w1 ⟨rfl,h1,k1⟩;rw[HXX.out];have H1:=hid h1;have K1:=hid k1;clear h1 k1;go_wp2_with fail;refine(fQ b x _ bad _ H1.out HB.out).mono ?_;rintro e w2 ⟨rfl,h2,k2⟩;rw[HV.out];have H2:=hid h2;have K2:=hid k2;clear h2 k2;go_wp2_with fail;refine(eP b _ bad _ H2.out).mono ?_;rintro e w3 ⟨rfl,h3,k3⟩;have H3:=hid h3;have K3:=hid k3;clear h3 k3;go_wp2_with fail;go_ret;exact⟨rfl,H3.out,(K1.out.trans K2.out).trans K3.out⟩

theorem zV (b most:Nat)(l:List Nat)(bad:Bool)(w:World)(h:aE w b rb l bad)(hg:cI most l)(hmost:most<18446744073709551616) :
  Calls Tryz.prog 29 #[.pointer (some ⟨b,0,none⟩),.int .u64 most] w fun e w'=>e = .returned (.int .u64 (eX l))/\aE w' b rb (l.drop (l.getD 0 0+1)) bad/\Kept w w' (fun k=>k=b):=by
 have H:=hid h;have hnb:=hg.1;have hne:0<l.length:=by unfold cH at hnb;omega
 have HNE:=hid hne;have hx:l.getD 0 0<256:=by obtain⟨v,_,hB,_⟩:=h.ex;exact hB.aT 0
 have hlen:(l.drop 1).length=l.length-1:=List.length_drop;have hd0:(l.drop 1).getD 0 0=l.getD 1 0:=by simp[List.getD_eq_getElem?_getD]
 have hb:¬mN (l.getD 0 0) (l.drop 1):=by unfold mN;unfold cH at hnb;rw[hlen,hd0];omega
 have hgm:((eX l:Nat):Int)<=(most:Int):=by have:=hg.2;omega
 have HB:=hid hb;have HV:Hid (beN ((l.drop 1).take (l.getD 0 0))=eX l):=hid rfl;have HD:Hid ((l.drop 1).drop (l.getD 0 0)=l.drop (l.getD 0 0+1)):=hid (by rw[List.drop_drop];congr 1;omega);have HMOST:=hid hmost;clear h hg hb hne hlen hd0 hmost hnb;generalize hxx:l.getD 0 0=x at HB HV hx HD ⊢;have HXX:=hid hxx;clear hxx;go_enter Tryz.func29,Tryz.ntmps29;go_wp2_with fail;refine(eN b l bad _ H.out HNE.out).mono ?_;rintro e w1 ⟨rfl,h1,k1⟩;rw[HXX.out];have H1:=hid h1;have K1:=hid k1;clear h1 k1;go_wp2_with fail;refine(fQ b x _ bad _ H1.out HB.out).mono ?_;rintro e w2 ⟨rfl,h2,k2⟩;rw[HV.out];rw[HD.out]at h2;have H2:=hid h2;have K2:=hid k2;clear h2 k2;go_wp2_with fail;go_ret;exact⟨rfl,H2.out,K1.out.trans K2.out⟩

theorem vF (b:Nat)(m:Int)(l:List Nat)(bad:Bool)(w:World)(h:aE w b rb l bad)(hm0:0<=m)(hmost:m<18446744073709551616) :
  Calls Tryz.prog 29 #[.pointer (some ⟨b,0,none⟩),.int .u64 m] w fun e w'=>e = .returned (.int .u64 (aB m.toNat l))/\aE w' b rb (eC m.toNat l) (bad || lI m.toNat l)/\Kept w w' (fun k=>k=b):=by
 obtain⟨n,rfl⟩:=Int.eq_ofNat_of_zero_le hm0;rw[Int.toNat_natCast];unfold aB eC lI;by_cases hg:cI n l
 ·simp only[if_pos hg,Bool.or_false];exact zV b n l bad w h hg (by omega)
 ·simp only[if_neg hg,Bool.or_true];exact aIY b n l bad w h hg (by omega)
variable {rb:Nat}

theorem aIZ (b n:Nat)(l:List Nat)(bad:Bool)(w:World)(h:aE w b rb l bad)(hn:n<=l.length) :
  Calls Tryz.prog 123 #[.pointer (some ⟨b,0,none⟩),.int .i64 n] w fun e w'=>∃v,e = .returned v/\Bytes w' v (l.take n)/\aE w' b rb (l.drop n) bad/\Kept w w' (fun k=>k=b):=by
 have H:=hid h;obtain⟨v,c0,hB,hvb⟩:=h.ex;have f0:=h.free0;obtain⟨v1,hB1,hcut1⟩:=hB.aAI Tryz.u8s n hn;obtain⟨v2,hB2,hv2,hcut2⟩:=hB.qN Tryz.u8s n hn;have hv2':l.drop n = []\/v2.ownBlock=some rb:=by rw[hv2];exact hvb.imp (fun h=>by rw[h];simp) id
 have hlb:(l.length:Int)<=2097152:=by have:=hB.small;omega
 have hn':(n:Int)<=(l.length:Int):=by omega
 have hn0:¬(n:Int)<0:=by omega
 obtain⟨a,c,rfl,_⟩:=hB.shape;obtain⟨a2,c2,rfl,_⟩:=hB2.shape;rw[List.length_drop]at hcut2 hB2 hv2';have HB1:=hid hB1;have HB2:=hid hB2;have HV2:=hid hv2';have hs1:(ints (l.take n)).length<=2097152:=by rw[aF];exact hB1.small
 have HLN:Hid (([]:List Int).length+(ints (l.take n)).length<=4294967296):=hid (by simp only[List.length_nil];omega);have HC0:=hid c0;have HF0:=hid f0;have hbs:=h.lt;have HE:Hid (bL (w.alloc (.cells #[] 5)) w.heap.size 5 .u8 (.slice (some ⟨w.heap.size,0,none⟩) 0 0) []):=hid (bL.empty (heap_alloc_new _ _) (Nat.le_refl _));clear h hB hvb hn hB1 hB2 hv2 hv2' hs1;go_enter Tryz.func123,Tryz.ntmps123
 go_wp2_with (at_builtin;refine aP Tryz.u8s _ _ rfl w.heap.size _ _ [] _ rfl rfl HE.out (HB1.out.rd.alloc _) (by decide) HLN.out (by simp) rfl ?_;intro v3 w1 hown3 hgr3 hat3 hnil3 hbel3;have O1:Hid (bL w1 w.heap.size 5 .u8 v3 (ints (l.take n))):=hid (by simpa using hown3);have B1:Hid (Below w.heap.size w w1):=hid (((Below.refl _ _).alloc (Nat.le_refl _) _).trans hbel3);clear hown3 hgr3 hat3 hnil3 hbel3 c0 f0;have c0:=Below.at B1.out HC0.out H.out.lt;have f0:w1.frozen? ⟨b,0,none⟩=false:=(H.out.below B1.out).free0;have hbs1:b<w1.heap.size:=Nat.lt_of_lt_of_le hbs B1.out.size)
 have O2:Hid (Bytes w1 v3 (l.take n)):=hid (Bytes.gE O1.out HB1.out.lt HB1.out.small);have O3:Hid (v3.ownBlock≠some b):=hid fun e=>by have:=(O1.out.lt b e).1;have:=H.out.lt;omega
 go_ret;refine⟨_,rfl,O2.out.kept (Kept.setCell _ ⟨b,0,none⟩ _) fun k hk e=>O3.out (by rw[hk,e]),(H.out.below B1.out).set (HB2.out.below B1.out) HV2.out,?_⟩;exact(Kept.aY B1.out (S:=fun k=>k=b) (fun k h1 h2=>by omega)).trans (Kept.setCell _ ⟨b,0,none⟩ _)

theorem fP (b:Nat)(l:List Nat)(bad:Bool)(w:World)(h:aE w b rb l bad) :
  Calls Tryz.prog 32 #[.pointer (some ⟨b,0,none⟩)] w fun e w'=>e = .returned (.int .i64 (hP l bad))/\w=w':=by
 obtain⟨v,c0,hB,_⟩:=h.ex;have c1:=h.bad;have hlb:(l.length:Int)<=2097152:=by have:=hB.small;omega
 obtain⟨a,c,rfl,_⟩:=hB.shape;cases bad with
 | true =>
  have HE:Hid (hP l true=20):=hid (by simp[hP]);clear h hB;go_enter Tryz.func32,Tryz.ntmps32;go_wp2_with fail;go_ret;exact⟨by rw[HE.out];rfl,rfl⟩
 | false =>
  by_cases h0:0<l.length
  ·have HE:Hid (hP l false=20):=hid (if_pos (.inr h0));have hl:(0:Int)<(l.length:Int):=by omega
   clear h hB h0;go_enter Tryz.func32,Tryz.ntmps32;go_wp2_with fail;go_ret;exact⟨by rw[HE.out];rfl,rfl⟩
  ·have HE:Hid (hP l false=0):=hid (if_neg fun h=>h.elim (fun h=>by cases h) h0);have hl:¬(0:Int)<(l.length:Int):=by omega
   clear h hB h0;go_enter Tryz.func32,Tryz.ntmps32;go_wp2_with fail;go_ret;exact⟨by rw[HE.out];rfl,rfl⟩

theorem aAb (b most:Nat)(l:List Nat)(bad:Bool)(w:World)(h:aE w b rb l bad)(hm:most<=1000000) :
  Calls Tryz.prog 79 #[.pointer (some ⟨b,0,none⟩),.int .i64 most] w fun e w'=>e = .returned (.string (eY (dY most l)))/\aE w' b rb (kD most l) (bad || kC most l)/\Kept w w' (fun k=>k=b):=by
 have C:=hid (vF b most l bad w h (by omega) (by omega));have hm':(most:Int)<=1000000:=by omega
 have hm0:¬(most:Int)<0:=by omega
 have hvm:((aB most l:Nat):Int)<=1000000:=by have:=aD most l;omega
 have HN:Hid ((most:Int).toNat=most):=hid (Int.toNat_natCast _);have hsm:(eC most l).length<=2097152:=by
  obtain⟨v,_,hB,_⟩:=h.ex;have:=xS most l;have:=hB.small;omega
 have hll:((eC most l).length:Int)<=2097152:=by omega
 clear h hm hsm;by_cases hg:eG most l
 ·have hgi:((aB most l:Nat):Int)<=((eC most l).length:Int):=by unfold eG at hg;omega
  have HV:Hid (dY most l=(eC most l).take (aB most l)/\kD most l=(eC most l).drop (aB most l)/\kC most l=lI most l):=hid (by simp[dY,kD,kC,hg]);have HGL:Hid (aB most l<=(eC most l).length):=hid hg;clear hg;go_enter Tryz.func79,Tryz.ntmps79;go_wp2_with fail;refine C.out.mono ?_;rintro e w1 ⟨rfl,h1,h2⟩;rw[HN.out]at h1 ⊢;have H1:=hid h1;have H2:=hid h2;obtain⟨v,c0,hB,_⟩:=h1.ex;obtain⟨a,c,rfl,_⟩:=hB.shape;clear h1 h2 hB;go_wp2_with fail;refine(aIZ b (aB most l) _ _ _ H1.out HGL.out).mono ?_;rintro e w3 ⟨v3,rfl,hB3,h3,k3⟩;have HB3:=hid hB3;have H3:=hid h3;have K3:=hid k3;clear hB3 h3 k3
  go_wp2_with (refine fJ rfl 22 9 5 _ rfl Tryz.underlying22 Tryz.underlying5 Tryz.underlying9 _ _ rfl HB3.out ?_)
  go_ret;exact⟨by rw[HV.out.1];rfl,by rw[HV.out.2.1,HV.out.2.2];exact H3.out,H2.out.trans K3.out⟩
 ·have hgi:((eC most l).length:Int)<((aB most l:Nat):Int):=by unfold eG at hg;omega
  have HV:Hid (dY most l = []/\kD most l = []/\kC most l=true):=hid (by simp[dY,kD,kC,hg]);clear hg;go_enter Tryz.func79,Tryz.ntmps79;go_wp2_with fail;refine C.out.mono ?_;rintro e w1 ⟨rfl,h1,h2⟩;rw[HN.out]at h1 ⊢;have H1:=hid h1;have H2:=hid h2;obtain⟨v,c0,hB,_⟩:=h1.ex;obtain⟨a,c,rfl,_⟩:=hB.shape;clear h1 h2 hB;go_wp2_with fail;refine(eP b _ _ _ H1.out).mono ?_;rintro e w3 ⟨rfl,h3,k3⟩;have H3:=hid h3;have K3:=hid k3;clear h3 k3;go_wp2_with fail;go_ret;exact⟨by rw[HV.out.1];rfl,by rw[HV.out.2.1,HV.out.2.2,Bool.or_true];exact H3.out,H2.out.trans K3.out⟩
variable {rb:Nat}

set_option maxRecDepth 100000
theorem aIV (b:Nat)(l:List Nat)(bad:Bool)(w:World)(h:aE w b rb l bad)(hg:¬cI iE (unm l)) :
  Calls Tryz.prog 30 #[.pointer (some ⟨b,0,none⟩)] w fun e w'=>e = .returned (.int .i64 0)/\aE w' b rb [] true/\Kept w w' (fun k=>k=b):=by
 have H:=hid h;by_cases h0:l = []
 ·subst h0;clear h hg;go_enter Tryz.func30,Tryz.ntmps30;go_wp2_with fail;refine(rF b bad _ H.out).mono ?_;rintro e w1 ⟨rfl,rfl⟩;go_wp2_with fail;refine(eP b [] bad _ H.out).mono ?_;rintro e w1 ⟨rfl,h1,h2⟩;have H1:=hid h1;have H2:=hid h2;clear h1 h2;go_wp2_with fail;go_ret;exact⟨rfl,H1.out,H2.out⟩
 ·have hne:=List.length_pos_iff.2 h0;have HNE:=hid hne;have hx:l.getD 0 0<256:=by obtain⟨v,_,hB,_⟩:=h.ex;exact hB.aT 0
  have hlen:(l.drop 1).length=l.length-1:=List.length_drop;have hd0:(l.drop 1).getD 0 0=l.getD 1 0:=by simp[List.getD_eq_getElem?_getD]
  by_cases hb:mN (l.getD 0 0 % 128) (l.drop 1)
  ·have HB:=hid hb;have HX:Hid (l.getD 0 0 % 128<256):=hid (by omega);clear h hg hb h0 hne hlen hd0;have hz:(l.getD 0 0:Int).tmod 128=((l.getD 0 0 % 128:Nat):Int):=(Int.ofNat_tmod (l.getD 0 0) 128).symm;have hx2:l.getD 0 0 % 128<128:=Nat.mod_lt _ (by decide);generalize hxx:l.getD 0 0 % 128=x at hx2 hz HB HX hx;generalize hzz:l.getD 0 0=z at hx hz;have HXX:=hid hxx;clear hxx;go_enter Tryz.func30,Tryz.ntmps30;go_wp2_with fail;refine(eN b l bad _ H.out HNE.out).mono ?_;rintro e w1 ⟨rfl,h1,k1⟩;rw[hzz];have H1:=hid h1;have K1:=hid k1;clear h1 k1;go_wp2_with fail;refine(pL b x _ bad _ H1.out HB.out HX.out).mono ?_;rintro e w2 ⟨rfl,rfl⟩;go_wp2_with fail;refine(eP b _ bad _ H1.out).mono ?_;rintro e w2 ⟨rfl,h2,k2⟩;have H2:=hid h2;have K2:=hid k2;clear h2 k2;go_wp2_with fail;go_ret;exact⟨rfl,H2.out,K1.out.trans K2.out⟩
  ·have hgm:(9223372036854775807:Int)<((eX (unm l):Nat):Int):=by
    have:¬cH (unm l):=by unfold cH;unfold mN at hb;rw[hlen,hd0]at hb;rw[kE,rM,kM];omega
    have:¬eX (unm l)<=iE:=fun h=>hg ⟨this,h⟩;unfold iE at this;omega
   have HB:=hid hb;have HV:Hid (beN ((l.drop 1).take (l.getD 0 0 % 128))=eX (unm l)):=hid (by unfold eX;rw[iH 0,kE]);clear h hg hb h0 hne hlen hd0;have hz:(l.getD 0 0:Int).tmod 128=((l.getD 0 0 % 128:Nat):Int):=(Int.ofNat_tmod (l.getD 0 0) 128).symm;have hx2:l.getD 0 0 % 128<128:=Nat.mod_lt _ (by decide);generalize hxx:l.getD 0 0 % 128=x at hx2 hz HB HV hx;generalize hzz:l.getD 0 0=z at hx hz;have HXX:=hid hxx;clear hxx;go_enter Tryz.func30,Tryz.ntmps30;go_wp2_with fail;refine(eN b l bad _ H.out HNE.out).mono ?_;rintro e w1 ⟨rfl,h1,k1⟩;rw[hzz];have H1:=hid h1;have K1:=hid k1;clear h1 k1;go_wp2_with fail;refine(fQ b x _ bad _ H1.out HB.out).mono ?_;rintro e w2 ⟨rfl,h2,k2⟩;rw[HV.out];have H2:=hid h2;have K2:=hid k2;clear h2 k2;go_wp2_with fail;refine(eP b _ bad _ H2.out).mono ?_;rintro e w3 ⟨rfl,h3,k3⟩;have H3:=hid h3;have K3:=hid k3;clear h3 k3;go_wp2_with fail;go_ret;exact⟨rfl,H3.out,(K1.out.trans K2.out).trans K3.out⟩

theorem zT (b:Nat)(l:List Nat)(bad:Bool)(w:World)(h:aE w b rb l bad)(hg:cI iE (unm l)) :
  Calls Tryz.prog 30 #[.pointer (some ⟨b,0,none⟩)] w fun e w'=>e = .returned (.int .i64 (if decide ((128:Int)<=(l.getD 0 0:Nat)) then -1-(eX (unm l):Int) else eX (unm l)))/\aE w' b rb (l.drop (l.getD 0 0 % 128+1)) bad/\Kept w w' (fun k=>k=b):=by
 have H:=hid h;have hnb:=hg.1;have hne:0<l.length:=by unfold cH at hnb;rw[kE,rM,kM]at hnb;omega
 have HNE:=hid hne;have hx:l.getD 0 0<256:=by obtain⟨v,_,hB,_⟩:=h.ex;exact hB.aT 0
 have hlen:(l.drop 1).length=l.length-1:=List.length_drop;have hd0:(l.drop 1).getD 0 0=l.getD 1 0:=by simp[List.getD_eq_getElem?_getD]
 have hb:¬mN (l.getD 0 0 % 128) (l.drop 1):=by unfold mN;unfold cH at hnb;rw[hlen,hd0];rw[kE,rM,kM]at hnb;omega
 have hgm:((eX (unm l):Nat):Int)<=9223372036854775807:=by have:=hg.2;unfold iE at this;omega
 have HB:=hid hb;have HV:Hid (beN ((l.drop 1).take (l.getD 0 0 % 128))=eX (unm l)):=hid (by unfold eX;rw[iH 0,kE]);have HD:Hid ((l.drop 1).drop (l.getD 0 0 % 128)=l.drop (l.getD 0 0 % 128+1)):=hid (by rw[List.drop_drop];congr 1;omega);clear h hg hb hne hlen hd0 hnb;have hz:(l.getD 0 0:Int).tmod 128=((l.getD 0 0 % 128:Nat):Int):=(Int.ofNat_tmod (l.getD 0 0) 128).symm;have hx2:l.getD 0 0 % 128<128:=Nat.mod_lt _ (by decide);generalize hxx:l.getD 0 0 % 128=x at hx2 hz HB HV hx HD ⊢;generalize hzz:l.getD 0 0=z at hx hz ⊢;have HXX:=hid hxx;clear hxx;have hnn:(0:Int)<=((eX (unm l):Nat):Int):=Int.natCast_nonneg _;generalize eX (unm l)=n at hgm HV hnn ⊢;have km:(128:Int)<=(z:Int)\/(z:Int)<128:=by omega
 rcases km with m1|m1
 ·rw[if_pos (decide_eq_true m1)];go_enter Tryz.func30,Tryz.ntmps30;go_wp2_with fail;refine(eN b l bad _ H.out HNE.out).mono ?_;rintro e w1 ⟨rfl,h1,k1⟩;rw[hzz];have H1:=hid h1;have K1:=hid k1;clear h1 k1;go_wp2_with fail;refine(fQ b x _ bad _ H1.out HB.out).mono ?_;rintro e w2 ⟨rfl,h2,k2⟩;rw[HV.out];rw[HD.out]at h2;have H2:=hid h2;have K2:=hid k2;clear h2 k2;go_wp2_with fail;go_ret;exact⟨by first|rfl|(simp;done),H2.out,K1.out.trans K2.out⟩
 ·rw[if_neg (fun h=>absurd (of_decide_eq_true h) (Int.not_le.2 m1))];go_enter Tryz.func30,Tryz.ntmps30;go_wp2_with fail;refine(eN b l bad _ H.out HNE.out).mono ?_;rintro e w1 ⟨rfl,h1,k1⟩;rw[hzz];have H1:=hid h1;have K1:=hid k1;clear h1 k1;go_wp2_with fail;refine(fQ b x _ bad _ H1.out HB.out).mono ?_;rintro e w2 ⟨rfl,h2,k2⟩;rw[HV.out];rw[HD.out]at h2;have H2:=hid h2;have K2:=hid k2;clear h2 k2;go_wp2_with fail;go_ret;exact⟨by first|rfl|(simp;done),H2.out,K1.out.trans K2.out⟩

theorem aIU (b:Nat)(l:List Nat)(bad:Bool)(w:World)(h:aE w b rb l bad) :
  Calls Tryz.prog 30 #[.pointer (some ⟨b,0,none⟩)] w fun e w'=>e = .returned (.int .i64 (gN l))/\aE w' b rb (zD l) (bad || aIf l)/\Kept w w' (fun k=>k=b):=by
 unfold gN zD aIf zH aB eC lI;by_cases hg:cI iE (unm l)
 ·simp only[if_pos hg,Bool.or_false];rw[iH,kE];exact zT b l bad w h hg
 ·simp only[if_neg hg,Bool.or_true];exact aIV b l bad w h hg
end Go.Proofs.YtgeihgombjbkbaaGreat
namespace Go.Proofs.YtgeihgombjbkbaaGreat
open Go.RowKit Go.Maps Go.Proofs.Own

structure bP where
 f:Int
 t:Int
deriving DecidableEq
def spV (s:bP):List Value:=[.int .i64 s.f,.int .i64 s.t]
def fS (s:bP):Bool:=decide (0<=s.f)&&decide (s.f<s.t)&&decide (s.t<=1125899906842624)
def rowE:Int->List bP->Bool
 | _,[]=>true
 | e,s::l=>fS s&&decide (e<=s.f)&&rowE s.t l
def bB (l:List bP):Int:=if 32<l.length then 21 else if rowE 0 l then 0 else 2
theorem rH {e:Int}{l:List bP}{j:Nat}(h:j<l.length):rowE e (l.drop j)=(fS l[j]&&decide (e<=l[j].f)&&rowE l[j].t (l.drop (j+1))):=by
 rw[List.drop_eq_getElem_cons h,rowE]
end Go.Proofs.YtgeihgombjbkbaaGreat
namespace Go.Proofs.YtgeihgombjbkbaaGreat
open Go.Lib (hid)
open Go.RowKit Go.Maps Go.Proofs.Own

theorem aI {n0:Nat}{w w':World}{a:Addr}{v:Value}(hb:Below n0 w w')(h:w.cell? a=some v)(ha:a.block<n0):w'.cell? a=some v:=by
 rw[World.cell?_of_block (w':=w') (w:=w) (a:=a) (hb.block a.block ha)];exact h
theorem dE {w w1 w2:World}{o:Obj}(h:Below w.heap.size w w1)(h2:Below (w1.alloc o).heap.size (w1.alloc o) w2):Below w.heap.size w w2 :=
 (h.alloc h.size o).trans (h2.mono (by have:=h.size;simp only[World.size_alloc];omega))
theorem lJ (f t:Int)(w:World):Calls Tryz.prog 424 #[.agg #[.int .i64 f,.int .i64 t]] w fun e w'=>e = .returned (.bool (fS ⟨f,t⟩))/\Below w.heap.size w w':=by
 by_cases h1:0<=f
 ·by_cases h2:f<t
  ·by_cases h3:t<=1125899906842624
   ·have HE:Hid (fS ⟨f,t⟩=true):=hid (by unfold fS;simp[h1,h2,h3]);go_enter Tryz.func424,Tryz.ntmps424;go_wp2_with fail;go_ret;exact⟨by rw[HE.out];rfl,(Below.refl _ _).alloc (Nat.le_refl _) _⟩
   ·have HE:Hid (fS ⟨f,t⟩=false):=hid (by unfold fS;simp[h3]);go_enter Tryz.func424,Tryz.ntmps424;go_wp2_with fail;go_ret;exact⟨by rw[HE.out];rfl,(Below.refl _ _).alloc (Nat.le_refl _) _⟩
  ·have HE:Hid (fS ⟨f,t⟩=false):=hid (by unfold fS;simp[h2]);go_enter Tryz.func424,Tryz.ntmps424;go_wp2_with fail;go_ret;exact⟨by rw[HE.out];rfl,(Below.refl _ _).alloc (Nat.le_refl _) _⟩
 ·have HE:Hid (fS ⟨f,t⟩=false):=hid (by unfold fS;simp[h1]);go_enter Tryz.func424,Tryz.ntmps424;go_wp2_with fail;go_ret;exact⟨by rw[HE.out];rfl,(Below.refl _ _).alloc (Nat.le_refl _) _⟩
theorem aU.sp {w:World}{a:Option Addr}{n c:Nat}{l:List bP}(h:aU w 2 (.slice a n c) (l.map spV)){j:Nat}(hj:j<l.length):∃b o,a=some ⟨b,o,none⟩/\b<w.heap.size/\w.cell? ⟨b,o+j*2,none⟩=some (.int .i64 l[j].f)/\w.cell? ⟨b,o+j*2+1,none⟩=some (.int .i64 l[j].t):=by
 obtain⟨b,o,e,hb,hc⟩:=h.at (j:=j) (by simpa using hj);rw[List.getElem_map]at hc;exact⟨b,o,e,hb,hc 0 _ rfl,hc 1 _ rfl⟩
theorem uX (l:List bP)(a:Option Addr)(n c:Nat)(w:World)(hr:aU w 2 (.slice a n c) (l.map spV))(hln:l.length=n)(hl:n<=maxLen) :
  Calls Tryz.prog 341 #[.slice a n c] w fun e w'=>e = .returned (.int .i64 (bB l))/\Below w.heap.size w w':=by
 unfold maxLen at hl;have HR:=hid hr;have HL:=hid hln;clear hr hln;by_cases h32:n<=32
 ·have b1:¬(32:Int)<(n:Int):=by omega
  have HE:Hid (bB l=if rowE 0 l then 0 else 2):=hid (by unfold bB;rw[if_neg (by have:=HL.out;omega)]);go_enter Tryz.func341,Tryz.ntmps341;go_wp2_with fail
  go_loopw [3,11] (fun e i wr=>∃(j:Nat) (en:Int),e = .int .i64 en/\i = .int .i64 j/\j<=n/\rowE 0 l=rowE en (l.drop j)/\Below w.heap.size w wr) (fun _ i _=>n-(intOf i).toNat)
  case atStart=>exact⟨0,0,rfl,rfl,Nat.zero_le _,rfl,Below.refl _ _⟩
  case round =>
   obtain⟨j,en,rfl,rfl,hj,hrow,hb⟩:=hrel;have HB:=hid hb;have HW:=hid hrow;clear hb hrow;by_cases hlt:j<n
   ·have hjl:j<l.length:=by have:=HL.out;omega
    obtain⟨b,o,rfl,hbl,x0,x1⟩:=HR.out.sp hjl;have x0:=aI HB.out x0 hbl;have x1:=aI HB.out x1 hbl;have HD:Hid (rowE 0 l=(fS l[j]&&decide (en<=l[j].f)&&rowE l[j].t (l.drop (j+1)))):=hid (by rw[HW.out,rH hjl]);generalize l[j]=s at x0 x1 HD;obtain⟨f,t⟩:=s;simp only at x0 x1 HD;cases hok:fS ⟨f,t⟩ with
    | true =>
     by_cases hen:f<en
     ·have HE2:Hid (bB l=2):=hid (by rw[HE.out,HD.out,hok,decide_eq_false (show ¬en<=f by omega)];rfl);go_wp2_with fail;refine(lJ f t _).mono ?_;rintro e w1 ⟨rfl,hb1⟩;rw[hok];have c0:=Below.at hb1 (show World.cell? _ ⟨wr.heap.size,0,none⟩=some (.int .i64 f) by go_cell) (by simp);have BB:Hid (Below w.heap.size w w1):=hid (dE HB.out hb1);clear hb1;go_wp2_with fail;go_ret;exact⟨by rw[HE2.out];rfl,BB.out⟩
     ·have HD2:Hid (rowE 0 l=rowE t (l.drop (j+1))):=hid (by rw[HD.out,hok,decide_eq_true (show en<=f by omega)];rfl);go_wp2_with fail;refine(lJ f t _).mono ?_;rintro e w1 ⟨rfl,hb1⟩;rw[hok];have c0:=Below.at hb1 (show World.cell? _ ⟨wr.heap.size,0,none⟩=some (.int .i64 f) by go_cell) (by simp);have c1:=Below.at hb1 (show World.cell? _ ⟨wr.heap.size,1,none⟩=some (.int .i64 t) by go_cell) (by simp);have BB:Hid (Below w.heap.size w w1):=hid (dE HB.out hb1);clear hb1;go_wp2_with fail
      go_roundw
      case rel=>exact⟨j+1,t,rfl,by first|rfl|go_num,by omega,HD2.out,BB.out⟩
      all_goals (show n-((j:Int)+1).toNat<n-((j:Int)).toNat;omega)
    | false =>
     have HE2:Hid (bB l=2):=hid (by rw[HE.out,HD.out,hok];simp);go_wp2_with fail;refine(lJ f t _).mono ?_;rintro e w1 ⟨rfl,hb1⟩;rw[hok];have BB:Hid (Below w.heap.size w w1):=hid (dE HB.out hb1);clear hb1;go_wp2_with fail;go_ret;exact⟨by rw[HE2.out];rfl,BB.out⟩
   ·obtain rfl:j=n:=by omega
    have HE2:Hid (bB l=0):=hid (by rw[HE.out,HW.out,List.drop_eq_nil_of_le (by have:=HL.out;omega)];rfl);go_wp2_with fail;go_ret;exact⟨by rw[HE2.out];rfl,HB.out⟩
 ·have b1:(32:Int)<(n:Int):=by omega
  have HE:Hid (bB l=21):=hid (by unfold bB;rw[if_pos (by have:=HL.out;omega)]);go_enter Tryz.func341,Tryz.ntmps341;go_wp2_with fail;go_ret;exact⟨by rw[HE.out];rfl,Below.refl _ _⟩
theorem eW {α:Type}{l m:List α}{j:Nat}(h:l.take j=m.take j)(hl:j<l.length)(hm:j<m.length)(e:l[j]=m[j]):l.take (j+1)=m.take (j+1):=by
 rw[List.take_succ_eq_append_getElem hl,List.take_succ_eq_append_getElem hm,h,e]
theorem rB (f t f2 t2:Int)(w:World):Calls Tryz.prog 193 #[.agg #[.int .i64 f,.int .i64 t],.agg #[.int .i64 f2,.int .i64 t2]] w fun e w'=>e = .returned (.bool (decide (f=f2/\t=t2)))/\Below w.heap.size w w':=by
 by_cases h1:f=f2
 ·by_cases h2:t=t2
  ·have HE:Hid (decide (f=f2/\t=t2)=true):=hid (decide_eq_true ⟨h1,h2⟩);subst h1 h2;go_enter Tryz.func193,Tryz.ntmps193;go_wp2_with fail;go_ret;exact⟨by first|(rw[HE.out];rfl)|rfl,((Below.refl _ _).alloc (Nat.le_refl _) _).alloc (by simp) _⟩
  ·have HE:Hid (decide (f=f2/\t=t2)=false):=hid (decide_eq_false fun h=>h2 h.2);clear h1;go_enter Tryz.func193,Tryz.ntmps193;go_wp2_with fail;go_ret;exact⟨by first|(rw[HE.out];rfl)|rfl,((Below.refl _ _).alloc (Nat.le_refl _) _).alloc (by simp) _⟩
 ·have HE:Hid (decide (f=f2/\t=t2)=false):=hid (decide_eq_false fun h=>h1 h.1);go_enter Tryz.func193,Tryz.ntmps193;go_wp2_with fail;go_ret;exact⟨by first|(rw[HE.out];rfl)|rfl,((Below.refl _ _).alloc (Nat.le_refl _) _).alloc (by simp) _⟩
theorem aIx (l m:List bP)(a a2:Option Addr)(n n2 c c2:Nat)(w:World)(hr:aU w 2 (.slice a n c) (l.map spV))(hr2:aU w 2 (.slice a2 n2 c2) (m.map spV))(hln:l.length=n)(hln2:m.length=n2)(hl:n<=maxLen) :
  Calls Tryz.prog 192 #[.slice a n c,.slice a2 n2 c2,.func (.func 193) #[] #[]] w fun e w'=>e = .returned (.bool (decide (l=m)))/\Below w.heap.size w w':=by
 unfold maxLen at hl;have HR:=hid hr;have HL:=hid hln;have HR2:=hid hr2;have HL2:=hid hln2;clear hr hln hr2 hln2;by_cases hnn:n=n2
 ·subst hnn;go_enter Tryz.func192,Tryz.ntmps192;go_wp2_with fail
  go_loopw [17] (fun i wr=>∃(j:Nat),i = .int .i64 j/\j<=n/\l.take j=m.take j/\Below w.heap.size w wr) (fun i _=>n-(intOf i).toNat)
  case atStart=>exact⟨0,rfl,Nat.zero_le _,rfl,Below.refl _ _⟩
  case round =>
   obtain⟨j,rfl,hj,hrow,hb⟩:=hrel;have HB:=hid hb;have HW:=hid hrow;clear hb hrow;by_cases hlt:j<n
   ·have hjl:j<l.length:=by have:=HL.out;omega
    have hjm:j<m.length:=by have:=HL2.out;omega
    obtain⟨b,o,rfl,hbl,x0,x1⟩:=HR.out.sp hjl;obtain⟨b2,o2,rfl,hbl2,y0,y1⟩:=HR2.out.sp hjm;have x0:=aI HB.out x0 hbl;have x1:=aI HB.out x1 hbl;have y0:=aI HB.out y0 hbl2;have y1:=aI HB.out y1 hbl2;have y0:=fun o=>aL y0 o;have y1:=fun o=>aL y1 o;by_cases he:l[j]=m[j]
    ·have HT:Hid (l.take (j+1)=m.take (j+1)):=hid (eW HW.out hjl hjm he);rw[<- he]at y0 y1;generalize l[j]=s at x0 x1 y0 y1;obtain⟨f,t⟩:=s;simp only at x0 x1 y0 y1;go_wp2_with fail;refine(rB f t f t _).mono ?_;rintro e w1 ⟨rfl,hb1⟩;rw[decide_eq_true (⟨rfl,rfl⟩:f=f/\t=t)];have BB:Hid (Below w.heap.size w w1):=hid (dE (HB.out.alloc HB.out.size _) hb1);clear hb1;go_wp2_with fail
     go_roundw
     case rel=>exact⟨j+1,by first|rfl|go_num,by omega,HT.out,BB.out⟩
     all_goals (show n-((j:Int)+1).toNat<n-((j:Int)).toNat;omega)
    ·have HE:Hid (decide (l=m)=false):=hid (decide_eq_false fun h=>he (by subst h;rfl));generalize l[j]=s at x0 x1 he;generalize m[j]=s2 at y0 y1 he;obtain⟨f,t⟩:=s;obtain⟨f2,t2⟩:=s2;simp only at x0 x1 y0 y1;have HN:Hid (decide (f=f2/\t=t2)=false):=hid (decide_eq_false fun h=>he (by rw[h.1,h.2]));clear he;go_wp2_with fail;refine(rB f t f2 t2 _).mono ?_;rintro e w1 ⟨rfl,hb1⟩;rw[HN.out];have BB:Hid (Below w.heap.size w w1):=hid (dE (HB.out.alloc HB.out.size _) hb1);clear hb1;go_wp2_with fail;go_ret;exact⟨by rw[HE.out];rfl,BB.out⟩
   ·obtain rfl:j=n:=by omega
    have HE:Hid (decide (l=m)=true):=hid (decide_eq_true (by
     have:=HW.out
     rwa [List.take_of_length_le (by rw[HL.out];exact Nat.le_refl _),List.take_of_length_le (by rw[HL2.out];exact Nat.le_refl _)]at this))
    go_wp2_with fail;go_ret;exact⟨by rw[HE.out];rfl,HB.out⟩
 ·have HE:Hid (decide (l=m)=false):=hid (decide_eq_false fun h=>hnn (by rw[<- HL.out,<- HL2.out,h]));have hni:¬(n:Int)=(n2:Int):=by omega
  go_enter Tryz.func192,Tryz.ntmps192;go_wp2_with fail;go_ret;exact⟨by rw[HE.out];rfl,Below.refl _ _⟩

theorem pM (l m:List bP)(a a2:Option Addr)(n n2 c c2:Nat)(w:World)(hr:aU w 2 (.slice a n c) (l.map spV))(hr2:aU w 2 (.slice a2 n2 c2) (m.map spV))(hln:l.length=n)(hln2:m.length=n2)(hl:n<=maxLen) :
  Calls Tryz.prog 184 #[.slice a n c,.slice a2 n2 c2] w fun e w'=>e = .returned (.bool (decide (l=m)))/\Below w.heap.size w w':=by
 unfold maxLen at hl;have HR:=hid hr;have HL:=hid hln;have HR2:=hid hr2;have HL2:=hid hln2;clear hr hln hr2 hln2;by_cases hnn:n=n2
 ·subst hnn;go_enter Tryz.func184,Tryz.ntmps184;go_wp2_with fail
  go_loopw [5] (fun i wr=>∃(j:Nat),i = .int .i64 j/\j<=n/\l.take j=m.take j/\Below w.heap.size w wr) (fun i _=>n-(intOf i).toNat)
  case atStart=>exact⟨0,rfl,Nat.zero_le _,rfl,Below.refl _ _⟩
  case round =>
   obtain⟨j,rfl,hj,hrow,hb⟩:=hrel;have HB:=hid hb;have HW:=hid hrow;clear hb hrow;by_cases hlt:j<n
   ·have hjl:j<l.length:=by have:=HL.out;omega
    have hjm:j<m.length:=by have:=HL2.out;omega
    obtain⟨b,o,rfl,hbl,x0,x1⟩:=HR.out.sp hjl;obtain⟨b2,o2,rfl,hbl2,y0,y1⟩:=HR2.out.sp hjm;have x0:=aI HB.out x0 hbl;have x1:=aI HB.out x1 hbl;have y0:=aI HB.out y0 hbl2;have y1:=aI HB.out y1 hbl2;by_cases he:l[j]=m[j]
    ·have HT:Hid (l.take (j+1)=m.take (j+1)):=hid (eW HW.out hjl hjm he);rw[<- he]at y0 y1;generalize l[j]=s at x0 x1 y0 y1;obtain⟨f,t⟩:=s;simp only at x0 x1 y0 y1;go_wp2_with fail
     go_quiet (fail)
     go_wp2_with fail
     go_roundw
     case rel=>exact⟨j+1,by first|rfl|go_num,by omega,HT.out,HB.out.trans ((Below.drewN _ _).mono HB.out.size)⟩
     all_goals (show n-((j:Int)+1).toNat<n-((j:Int)).toNat;omega)
    ·have HE:Hid (decide (l=m)=false):=hid (decide_eq_false fun h=>he (by subst h;rfl));generalize l[j]=s at x0 x1 he;generalize m[j]=s2 at y0 y1 he;obtain⟨f,t⟩:=s;obtain⟨f2,t2⟩:=s2;simp only at x0 x1 y0 y1;have HN:Hid ((f==f2&&t==t2)=false):=hid (by
      rw[Bool.eq_false_iff];intro h;simp only[Bool.and_eq_true,beq_iff_eq]at h;exact he (by rw[h.1,h.2]))
     by_cases h1:f=f2
     ·have h2:¬t=t2:=fun e=>he (by rw[h1,e]);have bx:(f==f2)=true:=by simp[h1]
      have by':(t==t2)=false:=by simp[h2]
      clear he h1 h2;go_wp2_with fail
      go_quiet (fail)
      go_wp2_with fail;go_ret;exact⟨by rw[HE.out];rfl,HB.out.trans ((Below.drewN _ _).mono HB.out.size)⟩
     ·have bx:(f==f2)=false:=by simp[h1]
      clear he h1;go_wp2_with fail
      go_quiet (fail)
      go_wp2_with fail;go_ret;exact⟨by rw[HE.out];rfl,HB.out.trans ((Below.drewN _ _).mono HB.out.size)⟩
   ·obtain rfl:j=n:=by omega
    have HE:Hid (decide (l=m)=true):=hid (decide_eq_true (by
     have:=HW.out
     rwa [List.take_of_length_le (by rw[HL.out];exact Nat.le_refl _),List.take_of_length_le (by rw[HL2.out];exact Nat.le_refl _)]at this))
    go_wp2_with fail;go_ret;exact⟨by rw[HE.out];rfl,HB.out⟩
 ·have HE:Hid (decide (l=m)=false):=hid (decide_eq_false fun h=>hnn (by rw[<- HL.out,<- HL2.out,h]));have hni:¬(n:Int)=(n2:Int):=by omega
  go_enter Tryz.func184,Tryz.ntmps184;go_wp2_with fail;go_ret;exact⟨by rw[HE.out];rfl,Below.refl _ _⟩
end Go.Proofs.YtgeihgombjbkbaaGreat
namespace Go.Proofs.Own
open Go Go.RowKit Go.Proofs.YtgeihgombjbkbaaGreat

theorem mZ {sz:Nat}(h0:0<sz):∀ {rs:List (List Value)},(∀r ∈ rs,r.length=sz) -> ∀ {j:Nat} {u:Value},rs.flatten[j]? = some u -> ∃(k:Nat) (hk:k<rs.length) (i:Nat),j=k*sz+i/\rs[k][i]? = some u
 | [],_,j,u,h=>by simp at h
 | r::rs,hr,j,u,h=>by
  have hl:r.length=sz:=hr r List.mem_cons_self;rw[List.flatten_cons]at h;by_cases hj:j<sz
  ·rw[List.getElem?_append_left (by omega)]at h;exact⟨0,by simp,j,by omega,h⟩
  ·rw[List.getElem?_append_right (by omega),hl]at h;obtain⟨k,hk,i,e,h2⟩:=mZ h0 (fun q hq=>hr q (List.mem_cons_of_mem _ hq)) h;refine⟨k+1,by simpa using hk,i,?_,by simpa using h2⟩;rw[Nat.add_mul];omega
theorem aAk {w:World}{sz:Nat}(h0:0<sz){ad:Addr}{n c:Nat}{rs:List (List Value)}(h:aU w sz (.slice (some ad) n c) rs)(hr:∀r ∈ rs,r.length=sz):∀j u,rs.flatten[j]? = some u->w.cell? (ad.add j)=some u:=by
 intro j u hu;obtain⟨k,hk,i,rfl,h2⟩:=mZ h0 hr hu;obtain⟨b,o,e,_,h3⟩:=h.at hk;obtain rfl:=Option.some.inj e;rw[Addr.add_lit,<- Nat.add_assoc];exact h3 i u h2
section
variable {P:Program} {t e:TypeId} {sz by':Nat} (I:cE P t e sz by') {w:World} {o:Oper} {a:Act} {Q:Exit->Act->World->Prop} (s x:Operand)
 (ho:o.op = .call { callee:=.builtin .append,args:=#[s,x],argTypes:=#[t,t] }) (base:Nat) (v xv:Value) (rs ns:List (List Value)) (hs:a.eval s=v) (hx:a.eval x=xv)
 (hown:dC w base e sz v rs) (hsr:aU w sz xv ns) (hr:∀r ∈ ns,r.length=sz) (h1:∀r ∈ ns,∀u ∈ r,u.oneCell'=true) (hlen:rs.length+ns.length<=4294967296) (hbase:base<=w.heap.size)
include I ho hs hx hown hsr hr h1 hlen hbase
end
end Go.Proofs.Own
