/- For scbytes_law_holds. -/
import Derived.Laws.BytesArg
import Derived.Lib.ConvBytes
import Derived.Test.YtgeihgombjbkbaaGreatSyb10
set_option maxHeartbeats 16000000
set_option maxRecDepth 100000
namespace Go.Proofs.YtgeihgombjbkbaaGreat
open Go.RowKit Go.Maps Go.Proofs.Own

def eS (l:List Nat):ByteArray:=⟨(l.map UInt8.ofNat).toArray⟩
def fE (s:ByteArray):List Nat:=s.data.toList.map UInt8.toNat
theorem gC {l:List Nat}(h:∀c ∈ l,c<256):fE (eS l)=l:=by
 have h1:fE (eS l)=(l.map UInt8.ofNat).map UInt8.toNat:=rfl;rw[h1,List.map_map]
 conv=>rhs;rw[<- List.map_id l]
 exact List.map_congr_left fun c hc=>by
  have:=h c hc;show (UInt8.ofNat c).toNat=c;rw[UInt8.toNat_ofNat'];exact Nat.mod_eq_of_lt this
theorem aI1 {l m:List Nat}(hl:∀c ∈ l,c<256)(hm:∀c ∈ m,c<256)(h:eS l=eS m):l=m:=by
 rw[<- gC hl,<- gC hm,h]
theorem yM (s:ByteArray):∀c ∈ fE s,c<256:=by
 intro c hc;simp only[fE,List.mem_map]at hc;obtain⟨x,_,rfl⟩:=hc;exact UInt8.toNat_lt x
theorem cO (s:ByteArray):(fE s).length=s.size:=by rw[fE,List.length_map];rfl
theorem iQ (l:List Nat):(eS l).size=l.length:=by show (l.map UInt8.ofNat).toArray.size=_;rw[List.size_toArray,List.length_map]
theorem oY (l:List Nat):strOfNums (ints l)=eS l:=by
 unfold strOfNums ints eS;rw[List.map_map]
 congr 2

theorem Bytes.str {P:Program}{src dst e:TypeId}(hs:P.underlying src=some (.slice e))(he:P.underlying e=some (.int .u8))(hd:P.underlying dst=some .string){w:World}{v:Value}{l:List Nat}(h:Bytes w v l) :
  (convert src dst v).run P w = .ok (.string (eS l)) w:=by
 obtain⟨a,c,rfl,_⟩:=h.shape;cases a with
 | none =>
  obtain⟨_,_,hc⟩:=h.cells;have:l = []:=by
   cases l with
   | nil=>rfl
   | cons x l=>obtain⟨b,o,e,_⟩:=hc 0 (by simp);cases e
  subst this;rw[run_convert_bytes_nil w src e hs he _ _ dst hd];rfl
 | some ad =>
  obtain⟨_,_,hc⟩:=h.cells;by_cases h0:l = []
  ·subst h0;rw[run_convert_bytes_string w src dst e _ _ _ hs he hd];have hl:=run_loadCells_list (P:=P) w ad [] (by simp);rw[show ([]:List Nat).length=([]:List Value).length from rfl];rw[run_bytesToString w ad _ c [] (by simpa using hl)];rfl
  ·obtain⟨b,o,e0,_⟩:=hc 0 (List.length_pos_iff.2 h0);cases e0;rw[<- oY];refine run_convert_bytes_arg w src e hs he b o _ c (ints l) (by rw[aD]) (fun i hi=>?_) dst hd;obtain⟨b',o',e1,h1⟩:=hc i hi;cases e1;rw[h1];simp[ints,List.getD_eq_getElem?_getD,hi]
theorem kU {P:Program}(w:World)(src dst e:TypeId)(s:ByteArray)(hs:P.underlying src=some .string)(hd:P.underlying dst=some (.slice e))(he:P.underlying e=some (.int .u8))(hsz:s.size<=2097152) :
  ∃v w',(convert src dst (.string s)).run P w = .ok v w'/\Bytes w' v (fE s)/\Below w.heap.size w w'/\v.ownBlock=some w.heap.size:=by
 have hge:=grownCap_ge w s.size 0 e;refine⟨_,_,run_bytes_of_string w src dst e s hs hd he,?_,((Below.refl _ _).drew).alloc (Nat.le_refl _) _,rfl⟩;generalize grownCap w s.size 0 e=c at hge;refine⟨⟨_,_,by rw[cO],by rw[cO];exact hge⟩,⟨_,_,by rw[aD,cO],fun j hj=>⟨w.heap.size,0,rfl,?_⟩⟩,yM s,by rw[cO];exact hsz⟩;have hj':j<s.data.size:=by rw[aD,cO]at hj;exact hj
 have hb:(w.drew.alloc (.cells (bytesRow s c) e ((bytesRow s c).size,(bytesRow s c).size+1))).heap[w.heap.size]? = some (.cells (bytesRow s c) e ((bytesRow s c).size,(bytesRow s c).size+1)):=heap_alloc_new w.drew _;rw[ints_at];have h1:(bytesRow s c)[j]? = some (.int .u8 (s.data[j].toNat:Nat)):=by
  unfold bytesRow;rw[Array.getElem?_append_left (by simpa using hj')];rw[Array.getElem?_map,Array.getElem?_eq_getElem hj'];rfl
 have h2:(fE s)[j]'(by rw[cO];exact hj')=s.data[j].toNat:=by simp[fE]
 rw[h2,Nat.zero_add];simp only[World.cell?];rw[hb];exact h1

theorem aL3 {a b:ByteArray}(h:a≠b):(a.toList==b.toList)=false:=by
 refine beq_eq_false_iff_ne.2 fun e=>h ?_;rw[ByteArray.toList_eq,ByteArray.toList_eq]at e;cases a;cases b
 congr
 exact Array.toList_inj.1 e
theorem zQ {a b:ByteArray}(h:a=b):(a.toList==b.toList)=true:=by
 subst h;exact beq_iff_eq.2 rfl

section
variable {P:Program} {ops:Array Oper} {rest:List Oper} {o:Oper} {a:Act} {Q:Exit->Act->World->Prop} {w:World}
theorem nI (hg:o.guard=none)(src dst e:TypeId)(x:Operand)(hop:o.op=Op.convert src dst x)(hs:P.underlying src=some .string)(hd:P.underlying dst=some (.slice e))(he:P.underlying e=some (.int .u8))
  (s:ByteArray) (hx:a.eval x = .string s) (hsz:s.size<=2097152)
  (hK:∀v w',Bytes w' v (fE s)->Below w.heap.size w w'->v.ownBlock=some w.heap.size->wpList P ops Q rest (a.put o.dst v) w'):wpList P ops Q (o::rest) a w:=by
 refine wpList_plain hg fun K' hK'=>?_;obtain⟨v,w',hrun,h1,h2,h3⟩:=kU (P:=P) w src dst e s hs hd he hsz;unfold Oper.wp;simp[execOp,hop,hx,hrun,Result.andThen];exact hK' _ _ (hK v w' h1 h2 h3)
theorem pQ (hg:o.guard=none)(src dst e:TypeId)(x:Operand)(hop:o.op=Op.convert src dst x)(hs:P.underlying src=some (.slice e))(he:P.underlying e=some (.int .u8))(hd:P.underlying dst=some .string)
  (v:Value) (l:List Nat) (hx:a.eval x=v) (hB:Bytes w v l)
  (hK:wpList P ops Q rest (a.put o.dst (.string (eS l))) w):wpList P ops Q (o::rest) a w:=by
 refine wpList_plain hg fun K' hK'=>?_;have hrun:=hB.str hs he hd;unfold Oper.wp;simp[execOp,hop,hx,hrun,Result.andThen];exact hK' _ _ hK
end

def aM (w:World)(sz:Nat)(v:Value)(rs:List (List Value)):Prop :=
 ∃a c,v = .slice a rs.length c/\rs.length<=c /\ ∀j (h:j<rs.length),∃b o,a=some ⟨b,o,none⟩/\b<w.heap.size /\ ∀i x,rs[j][i]? = some x->w.cell? ⟨b,o+j*sz+i,none⟩=some x
theorem aM.kept {w w':World}{sz:Nat}{v:Value}{rs:List (List Value)}{S:Nat->Prop}(h:aM w sz v rs)(hk:Kept w w' S)(hs:rs = [] \/ ∀b,v.ownBlock=some b -> ¬S b):aM w' sz v rs:=by
 obtain⟨a,c,rfl,hl,hc⟩:=h;refine⟨a,c,rfl,hl,fun j hj=>?_⟩;obtain⟨b,o,rfl,h0,h1⟩:=hc j hj;refine⟨b,o,rfl,Nat.lt_of_lt_of_le h0 hk.size,fun i x hx=>hk.cell (h1 i x hx) ?_⟩;rcases hs with hs|hs
 ·subst hs;exact absurd hj (Nat.not_lt_zero j)
 ·exact hs b rfl
theorem aM.below {w w':World}{sz:Nat}{v:Value}{rs:List (List Value)}(h:aM w sz v rs)(hb:Below w.heap.size w w'):aM w' sz v rs :=
 h.kept (Kept.aQ hb (S:=fun _=>False) fun k h1 h2=>by omega) (.inr fun _ _ h=>h)
theorem aM.nil (w:World)(sz:Nat):aM w sz (.slice none 0 0) []:=⟨none,0,rfl,Nat.le_refl _,fun j h=>absurd h (Nat.not_lt_zero j)⟩
theorem aM.shape {w:World}{sz:Nat}{v:Value}{rs:List (List Value)}(h:aM w sz v rs):∃a c,v = .slice a rs.length c/\rs.length<=c:=let ⟨a,c,e,hl,_⟩:=h;⟨a,c,e,hl⟩
theorem aM.at {w:World}{sz:Nat}{a:Option Addr}{n c:Nat}{rs:List (List Value)}(h:aM w sz (.slice a n c) rs){j:Nat}(hj:j<rs.length):∃b o,a=some ⟨b,o,none⟩/\b<w.heap.size /\ ∀i x,rs[j][i]? = some x->w.cell? ⟨b,o+j*sz+i,none⟩=some x:=by
 obtain⟨a',c',e,_,hc⟩:=h;cases e;exact hc j hj

structure mE (S:World->Prop):Prop where
 below:∀ {w w':World},S w->Below w.heap.size w w'->S w'
theorem mE.alloc {S:World->Prop}(h:mE S){w:World}(hs:S w)(o:Obj):S (w.alloc o):=h.below hs ((Below.refl _ _).alloc (Nat.le_refl _) o)
theorem mE.cell (p:Addr)(v:Value):mE fun w=>w.cell? p=some v:=⟨fun hs hb=>Below.at hb hs (World.block_lt_of_cell? _ _ hs)⟩

def beN (l:List Nat):Nat:=l.foldl (fun n c=>n*256+c) 0
theorem aKQ (l:List Nat):∀n k,n<256 ^ k->(∀c ∈ l,c<256)->l.foldl (fun n c=>n*256+c) n<256 ^ (k+l.length):=by
 induction l with
 | nil=>intro n k h _;simpa using h
 | cons c l ih =>
  intro n k h hl;have hc:=hl c (by simp);have:=ih (n*256+c) (k+1) (by rw[Nat.pow_succ];have:=Nat.mul_le_mul_right 256 (show n+1<=256 ^ k from h);omega) fun d hd=>hl d (by simp[hd])
  simpa [Nat.add_assoc,Nat.add_comm 1] using this
theorem aKR (l:List Nat)(hl:∀c ∈ l,c<256):beN l<256 ^ l.length:=by
 have:=aKQ l 0 0 (by decide) hl
 simpa [beN] using this
theorem sW (l:List Nat)(c:Nat):beN (l ++ [c])=beN l*256+c:=by simp[beN,List.foldl_append]
theorem iM (l:List Nat)(k:Nat)(h:k<l.length):beN (l.take (k+1))=beN (l.take k)*256+l[k]:=by
 rw[List.take_succ_eq_append_getElem h,sW]

theorem aME (a b:Nat)(ha:a<18446744073709551616)(hb:b<18446744073709551616):bits .or .u64 (a:Int) (b:Int)=((a ||| b:Nat):Int):=by
 have hx:a ||| b<2 ^ 64:=Nat.or_lt_two_pow (by omega) (by omega)
 have h64:∀n:Nat,n<18446744073709551616->(BitVec.ofInt 64 (n:Int)).toNat=n:=fun n hn=>by
  rw[BitVec.ofInt_natCast,BitVec.toNat_ofNat];exact Nat.mod_eq_of_lt (by omega)
 have hw:IntKind.u64.wrap ((a ||| b:Nat):Int)=((a ||| b:Nat):Int):=by
  have:∀n:Int,IntKind.u64.wrap n=n % 18446744073709551616:=fun n=>by simp[IntKind.wrap,IntKind.bits,IntKind.signed]
  rw[this];omega
 show IntKind.u64.wrap ((BitVec.ofInt 64 (a:Int) ||| BitVec.ofInt 64 (b:Int)).toNat:Int)=_;rw[BitVec.toNat_or,h64 a ha,h64 b hb,hw]
theorem aKg (a c:Nat)(hc:c<256):a*256 ||| c=a*256+c:=by
 have:=Nat.two_pow_add_eq_or_of_lt (i:=8) (b:=c) (by omega) a;rw[show 2 ^ 8*a=a*256 by omega]at this;exact this.symm

theorem wrap_u64 (n:Int):IntKind.u64.wrap n=n % 18446744073709551616:=by simp[IntKind.wrap,IntKind.bits,IntKind.signed]
theorem sI (n z:Nat)(hz:z<256)(hn:n*256+z<18446744073709551616):bits BinOp.or .u64 (IntKind.u64.wrap ((n:Int)*256)) (z:Int)=((n*256+z:Nat):Int):=by
 have h1:n*256<18446744073709551616:=Nat.lt_of_le_of_lt (Nat.le_add_right _ _) hn;have h2:z<18446744073709551616:=Nat.lt_of_le_of_lt (Nat.le_add_left _ _) hn;have h3:=aME (n*256) z h1 h2;have hw:IntKind.u64.wrap ((n:Int)*256)=((n*256:Nat):Int):=by
  rw[wrap_u64];exact Int.emod_eq_of_lt (Int.natCast_nonneg (n*256)) (Int.ofNat_lt.2 h1)
 clear h1 h2 hn;have h4:=aKg n z hz;rw[h4]at h3;rw[hw];exact h3
theorem pU {l:List Nat}(hl:∀c ∈ l,c<256)(h8:l.length<=8):beN l<18446744073709551616 :=
 Nat.lt_of_lt_of_le (aKR l hl) (Nat.le_trans (Nat.pow_le_pow_right (by decide) h8) (Nat.le_of_ble_eq_true rfl))


def eJ (l:List Nat):Prop:=8<l.getD 0 0\/l.length<=l.getD 0 0\/(0<l.getD 0 0/\l.getD 1 0=0)
instance (l:List Nat):Decidable (eJ l):=inferInstanceAs (Decidable (_\/_))
def mN (l:List Nat):Nat:=beN ((l.drop 1).take (l.getD 0 0))
def eD (most:Nat)(l:List Nat):Prop:=¬eJ l/\mN l<=most
instance (most:Nat) (l:List Nat):Decidable (eD most l):=inferInstanceAs (Decidable (_/\_))
def aF (most:Nat)(l:List Nat):Nat:=if eD most l then mN l else 0
def fT (most:Nat)(l:List Nat):List Nat:=if eD most l then l.drop (l.getD 0 0+1) else []
def mM (most:Nat)(l:List Nat):Bool:=if eD most l then false else true
theorem aU (most:Nat)(l:List Nat):aF most l<=most:=by
 unfold aF;split
 ·rename_i h;exact h.2
 ·exact Nat.zero_le _
theorem aKe (most:Nat)(l:List Nat):(fT most l).length<=l.length:=by
 unfold fT;split
 ·rw[List.length_drop];omega
 ·simp

def fN (most:Nat)(l:List Nat):Prop:=aF most l<=(fT most l).length
instance (most:Nat) (l:List Nat):Decidable (fN most l):=inferInstanceAs (Decidable (_<=_))
def fR (most:Nat)(l:List Nat):List Nat:=if fN most l then (fT most l).take (aF most l) else []
def nB (most:Nat)(l:List Nat):List Nat:=if fN most l then (fT most l).drop (aF most l) else []
def nA (most:Nat)(l:List Nat):Bool:=mM most l || if fN most l then false else true
def lR (l:List Nat)(bad:Bool):Nat:=if bad=true\/0<l.length then 20 else 0

structure bF (w:World)(b rb:Nat)(l:List Nat)(bad:Bool):Prop where
 ex:∃v,w.cell? ⟨b,0,none⟩=some v/\Bytes w v l/\(l = []\/v.ownBlock=some rb)
 ne:rb≠b
 bad:w.cell? ⟨b,1,none⟩=some (.bool bad)
 free0:w.frozen? ⟨b,0,none⟩=false
 free1:w.frozen? ⟨b,1,none⟩=false
variable {rb:Nat}
theorem bF.lt {w:World}{b:Nat}{l:List Nat}{bad:Bool}(h:bF w b rb l bad):b<w.heap.size:=World.block_lt_of_cell? _ _ h.bad
theorem bF.below {w w':World}{b:Nat}{l:List Nat}{bad:Bool}(h:bF w b rb l bad)(hb:Below w.heap.size w w'):bF w' b rb l bad:=by
 obtain⟨v,h1,h2,h3⟩:=h.ex;have hl:=h.lt;exact⟨⟨v,Below.at hb h1 hl,h2.below hb,h3⟩,h.ne,Below.at hb h.bad hl,by rw[hb.frozen (p:=⟨b,0,none⟩) hl];exact h.free0,by rw[hb.frozen (p:=⟨b,1,none⟩) hl];exact h.free1⟩
theorem Bytes.rM {w w':World}{v:Value}{l:List Nat}{S:Nat->Prop}(h:Bytes w v l)(hk:Kept w w' S)(hv:l = []\/v.ownBlock=some rb)(hs:¬S rb):Bytes w' v l:=by
 rcases hv with rfl|hv
 ·exact⟨h.shape,by obtain⟨a,c,rfl,_⟩:=h.shape;exact Reads.nil _ _ _ _,h.lt,h.small⟩
 ·exact h.kept hk fun k hk'=>by rw[hv]at hk';cases hk';exact hs
theorem bF.kept {w w':World}{b:Nat}{l:List Nat}{bad:Bool}{S:Nat->Prop}(h:bF w b rb l bad)(hk:Kept w w' S)(hs:¬S b)(hr:¬S rb):bF w' b rb l bad:=by
 obtain⟨v,h1,h2,h3⟩:=h.ex;have hl:=h.lt;exact⟨⟨v,hk.cell h1 hs,h2.rM hk h3 hr,h3⟩,h.ne,hk.cell h.bad hs,by rw[hk.frozen (a:=⟨b,0,none⟩) hl hs];exact h.free0,by rw[hk.frozen (a:=⟨b,1,none⟩) hl hs];exact h.free1⟩
theorem bF.set {w:World}{b:Nat}{l l':List Nat}{bad:Bool}(h:bF w b rb l bad){v':Value}(hB:Bytes w v' l')(hv:l' = []\/v'.ownBlock=some rb):bF (w.setCell ⟨b,0,none⟩ v') b rb l' bad:=by
 obtain⟨v,h1,_,_⟩:=h.ex;have hk:=Kept.setCell w ⟨b,0,none⟩ v';refine⟨⟨v',css h1,hB.rM hk hv h.ne,hv⟩,h.ne,?_,by rw[fsc];exact h.free0,by rw[fsc];exact h.free1⟩;rw[cso (by simp)];exact h.bad
theorem bF.aL1 {w:World}{b:Nat}{l:List Nat}{bad:Bool}(h:bF w b rb l bad)(bad':Bool):bF (w.setCell ⟨b,1,none⟩ (.bool bad')) b rb l bad':=by
 obtain⟨v,h1,h2,h3⟩:=h.ex;have hk:=Kept.setCell w ⟨b,1,none⟩ (.bool bad');refine⟨⟨v,?_,h2.rM hk h3 h.ne,h3⟩,h.ne,css h.bad,by rw[fsc];exact h.free0,by rw[fsc];exact h.free1⟩;rw[cso (by simp)];exact h1
end Go.Proofs.YtgeihgombjbkbaaGreat
namespace Go.Proofs.YtgeihgombjbkbaaGreat
open Go.Lib (hid)
open Go.RowKit Go.Maps Go.Proofs.Own
variable {rb:Nat}

theorem dB (b:Nat)(l:List Nat)(bad:Bool)(w:World)(h:bF w b rb l bad) :
  Calls Tryz.prog 75 #[.pointer (some ⟨b,0,none⟩)] w fun e w'=>e = .returned (.tuple #[])/\bF w' b rb [] true/\Kept w w' (fun k=>k=b):=by
 have H:=hid h;obtain⟨v,c0,_,_⟩:=h.ex;have c1:=h.bad;have f0:=h.free0;have f1:=h.free1;clear h;go_enter Tryz.func75,Tryz.ntmps75;go_wp2_with fail
 go_end0
 refine⟨rfl,(H.out.set (Bytes.nil _) (.inl rfl)).aL1 true,(Kept.setCell w ⟨b,0,none⟩ _).trans (Kept.setCell _ ⟨b,1,none⟩ _)⟩

theorem cD (b:Nat)(l:List Nat)(bad:Bool)(w:World)(h:bF w b rb l bad) :
  Calls Tryz.prog 118 #[.pointer (some ⟨b,0,none⟩)] w fun e w'=>e = .returned (.int .i64 l.length)/\w=w':=by
 obtain⟨v,c0,hB,_⟩:=h.ex;obtain⟨a,c,rfl,_⟩:=hB.shape;clear h hB;go_enter Tryz.func118,Tryz.ntmps118;go_wp2_with fail;go_ret;exact⟨rfl,rfl⟩

def iA (b rb most:Nat)(l:List Nat)(bad:Bool)(w:World):Ending->World->Prop:=fun e w'=>e = .returned (.tuple #[.int .u64 (aF most l),.bool false])/\bF w' b rb (fT most l) (bad || mM most l)/\Kept w w' (fun k=>k=b)
theorem jW {b most:Nat}{l:List Nat}{bad:Bool}{w:World}(h:¬eD most l):iA b rb most l bad w=fun e w'=>e = .returned (.tuple #[.int .u64 0,.bool false])/\bF w' b rb [] true/\Kept w w' (fun k=>k=b):=by
 unfold iA aF fT mM;simp[h]
theorem rS {b most:Nat}{l:List Nat}{bad:Bool}{w:World}(h:eD most l):iA b rb most l bad w=fun e w'=>e = .returned (.tuple #[.int .u64 (mN l),.bool false])/\bF w' b rb (l.drop (l.getD 0 0+1)) bad/\Kept w w' (fun k=>k=b):=by
 unfold iA aF fT mM;simp[h]

theorem aIJ (b most:Nat)(bad:Bool)(w:World)(h:bF w b rb [] bad) :
  Calls Tryz.prog 72 #[.pointer (some ⟨b,0,none⟩),.int .u64 most,.bool false] w (iA b rb most [] bad w):=by
 rw[jW (by simp[eD,eJ])];have H:=hid h;clear h;go_enter Tryz.func72,Tryz.ntmps72;go_wp2_with fail;refine(cD b [] bad _ H.out).mono ?_;rintro e w1 ⟨rfl,rfl⟩;go_wp2_with fail;refine(dB b [] bad _ H.out).mono ?_;rintro e w1 ⟨rfl,h1,h2⟩;have H1:=hid h1;have H2:=hid h2;clear h1 h2;go_wp2_with fail
 go_ret2
 exact⟨rfl,H1.out,H2.out⟩

theorem aIK (b most:Nat)(l:List Nat)(bad:Bool)(w:World)(h:bF w b rb l bad)(hne:0<l.length)(hbad:eJ l) :
  Calls Tryz.prog 72 #[.pointer (some ⟨b,0,none⟩),.int .u64 most,.bool false] w (iA b rb most l bad w):=by
 rw[jW fun h=>h.1 hbad];have H:=hid h;obtain⟨v,c0,hB,_⟩:=h.ex;obtain⟨b1,o1,c,rfl,hle,hbs,hcell⟩:=hB.eR hne;have d0:w.cell? ⟨b1,o1,none⟩=some (.int .u8 (l.getD 0 0:Nat)):=hcell 0 hne;have d1:1<l.length->w.cell? ⟨b1,o1+1,none⟩=some (.int .u8 (l.getD 1 0:Nat)):=fun h=>hcell 1 h;have x0:=hB.dH 0;have x1:=hB.dH 1;have hlb:(l.length:Int)<=2097152:=by have:=hB.small;omega
 have hl0:((l.length:Int)==0)=false:=beq_eq_false_iff_ne.2 (by omega);have i0:(0:Int)<(l.length:Int):=by omega
 unfold eJ at hbad;generalize l.getD 0 0=x at d0 x0 hbad;generalize l.getD 1 0=y at d1 x1 hbad;have key:((8:Int)<(x:Int))\/((x:Int)<=8/\(l.length:Int)<=(x:Int))\/((x:Int)<=8/\(x:Int)<(l.length:Int)/\(0:Int)<(x:Int)/\((y:Int)==0)=true):=by
  by_cases h8:8<x
  ·exact .inl (by omega)
  ·by_cases hll:l.length<=x
   ·exact .inr (.inl ⟨by omega,by omega⟩)
   ·exact .inr (.inr ⟨by omega,by omega,by omega,by simp;omega⟩)
 clear h hB hcell hle hbad hne;rcases key with k1|⟨k1,k2⟩|⟨k1,k2,k3,k4⟩
 ·clear d1;go_enter Tryz.func72,Tryz.ntmps72;go_wp2_with fail;refine(cD b l bad _ H.out).mono ?_;rintro e w1 ⟨rfl,rfl⟩;go_wp2_with fail;refine(dB b l bad _ H.out).mono ?_;rintro e w1 ⟨rfl,h1,h2⟩;have H1:=hid h1;have H2:=hid h2;clear h1 h2;go_wp2_with fail
  go_ret2
  exact⟨rfl,H1.out,H2.out⟩
 ·clear d1;go_enter Tryz.func72,Tryz.ntmps72;go_wp2_with fail;refine(cD b l bad _ H.out).mono ?_;rintro e w1 ⟨rfl,rfl⟩;go_wp2_with fail;refine(dB b l bad _ H.out).mono ?_;rintro e w1 ⟨rfl,h1,h2⟩;have H1:=hid h1;have H2:=hid h2;clear h1 h2;go_wp2_with fail
  go_ret2
  exact⟨rfl,H1.out,H2.out⟩
 ·have d1':=d1 (by omega);have i1:(1:Int)<(l.length:Int):=by omega
  clear d1;go_enter Tryz.func72,Tryz.ntmps72;go_wp2_with fail;refine(cD b l bad _ H.out).mono ?_;rintro e w1 ⟨rfl,rfl⟩;go_wp2_with fail;refine(dB b l bad _ H.out).mono ?_;rintro e w1 ⟨rfl,h1,h2⟩;have H1:=hid h1;have H2:=hid h2;clear h1 h2;go_wp2_with fail
  go_ret2
  exact⟨rfl,H1.out,H2.out⟩

theorem aIL (b most:Nat)(l:List Nat)(bad:Bool)(w:World)(h:bF w b rb l bad)(hb:¬eJ l)(hmost:most<18446744073709551616) :
  Calls Tryz.prog 72 #[.pointer (some ⟨b,0,none⟩),.int .u64 most,.bool false] w (iA b rb most l bad w):=by
 have H:=hid h;obtain⟨v,c0,hB,hvb⟩:=h.ex;have f0:=h.free0;have hx8:l.getD 0 0<=8/\l.getD 0 0<l.length:=by unfold eJ at hb;omega
 have hy:0<l.getD 0 0->l.getD 1 0≠0:=by unfold eJ at hb;omega
 obtain⟨v1,hB1,hcut1⟩:=hB.aMs Tryz.u8s 1 (l.getD 0 0+1) (by omega) (by omega);obtain⟨v2,hB2,hv2,hcut2⟩:=hB.aAA Tryz.u8s (l.getD 0 0+1) (by omega);have e1:(l.take (l.getD 0 0+1)).drop 1=(l.drop 1).take (l.getD 0 0):=by rw[List.drop_take];congr 1
 rw[e1]at hB1;have HX:Hid (mN l=beN ((l.drop 1).take (l.getD 0 0))):=hid rfl;obtain⟨b1,o1,c,rfl,hle,hbs,hcell⟩:=hB.eR (by omega);have d0:w.cell? ⟨b1,o1,none⟩=some (.int .u8 (l.getD 0 0:Nat)):=hcell 0 (by omega);have d1:0<l.getD 0 0->w.cell? ⟨b1,o1+1,none⟩=some (.int .u8 (l.getD 1 0:Nat)):=fun h=>hcell 1 (by omega);have x0:=hB.dH 0;have x1:=hB.dH 1;have hlb:(l.length:Int)<=2097152:=by have:=hB.small;omega
 have hl0:((l.length:Int)==0)=false:=beq_eq_false_iff_ne.2 (by omega);have i0:(0:Int)<(l.length:Int):=by omega
 have hlen1:((l.drop 1).take (l.getD 0 0)).length=l.getD 0 0:=by rw[List.length_take,List.length_drop];omega
 have HG:Hid (eD most l ↔ mN l<=most):=hid ⟨fun h=>h.2,fun h=>⟨hb,h⟩⟩;have hv2':l.drop (l.getD 0 0+1) = []\/v2.ownBlock=some rb:=by rw[hv2];exact hvb.imp (fun h=>by rw[h];simp) id
 have HB2:=hid hB2;clear h hB hcell hle hb e1 hvb hv2 hB2;generalize hrest:l.drop (l.getD 0 0+1)=rest at HB2 hv2';generalize hbl:(l.drop 1).take (l.getD 0 0)=bl at hB1 HX hlen1;have HREST:=hid hrest;clear hbl hrest;generalize hxx:l.getD 0 0=x at *
 have HXX:=hid hxx;clear hxx;generalize l.getD 1 0=y at *
 have key:(x:Int)<=0\/((0:Int)<(x:Int)/\((y:Int)==0)=false/\w.cell? ⟨b1,o1+1,none⟩=some (.int .u8 (y:Nat))/\(1:Int)<(l.length:Int)):=by
  by_cases h0:x=0
  ·exact .inl (by omega)
  ·exact .inr ⟨by omega,by have:=hy (by omega);simp;omega,d1 (by omega),by omega⟩
 have k8:(x:Int)<=8:=by omega
 have kl:(x:Int)<(l.length:Int):=by omega
 obtain⟨a1,c1,rfl,_⟩:=hB1.shape;have hcut1':∀w',(Instr.slice 22 (.slice (some ⟨b1,o1,none⟩) l.length c) (some (.int .i64 1)) (some (.int .i64 ((x:Int)+1))) none).run Tryz.prog w' = .ok (.slice a1 bl.length c1) w':=hcut1;have hcut2':∀w',(Instr.slice 22 (.slice (some ⟨b1,o1,none⟩) l.length c) (some (.int .i64 ((x:Int)+1))) none none).run Tryz.prog w' = .ok v2 w':=hcut2;have HL1:=hid hlen1;have HB1:=hid hB1;have HBC:=hid hB1.cells.2.2;have hx8':bl.length<=8:=by omega
 obtain⟨a2,c2,rfl,_⟩:=HB2.out.shape;clear hcut1 hcut2 hlen1 hB1 hx8 hy d1;have HSM:Hid (∀k (h:k<bl.length),beN (bl.take k)*256+bl[k]<18446744073709551616):=hid fun k h=>by
  rw[<- iM bl k h];exact pU (fun c hc=>HB1.out.lt c (List.mem_of_mem_take hc)) (by rw[List.length_take];omega)
 have HSET:Hid (bF (w.setCell ⟨b,0,none⟩ (.slice a2 rest.length c2)) b rb rest bad):=hid (H.out.set HB2.out hv2');clear hv2';by_cases hgm:mN l<=most
 ·rw[rS (HG.out.2 hgm)];rw[HX.out]at hgm ⊢;have hgi:¬(most:Int)<((beN bl:Nat):Int):=by omega
  have HMOST:=hid hmost;have HD:Hid (l.drop (l.getD 0 0+1)=rest):=hid (by rw[HXX.out];exact HREST.out);rw[HD.out];clear hgm hmost;rcases key with k1|⟨k1,k2,k3,k4⟩
  all_goals
   go_enter Tryz.func72,Tryz.ntmps72;go_wp2_with fail;refine(cD b l bad _ H.out).mono ?_;rintro e w1 ⟨rfl,rfl⟩;go_wp2_with fail
   go_loop [6,62] (fun n i=>∃k:Nat,k<=bl.length/\i = .int .i64 k/\n = .int .u64 (beN (bl.take k):Nat)) (fun _ i=>bl.length-(intOf i).toNat)
   case atStart=>exact⟨0,Nat.zero_le _,rfl,rfl⟩
   case round =>
    obtain⟨k,hk,rfl,rfl⟩:=hrel;by_cases hlt:k<bl.length
    ·obtain⟨b2,o2,rfl,hcell⟩:=HBC.out k hlt;have hx:bl[k]<256:=HB1.out.lt _ (List.getElem_mem hlt);have hsm:=HSM.out k hlt;have HS:=hid (iM bl k hlt);generalize bl[k]=z at hcell hx HS hsm;generalize beN (bl.take k)=n at HS hsm ⊢;have HV:=hid (sI n z hx hsm);clear hsm;go_wp2_with fail
     go_round
     case rel=>exact⟨k+1,by omega,by go_num,by rw[HV.out,HS.out]⟩
     case measure=>simp[intOf];omega
    ·obtain rfl:k=bl.length:=by omega
     go_wp2_with fail
     go_ret2
     exact⟨rfl,HSET.out,Kept.setCell w ⟨b,0,none⟩ _⟩
 ·rw[jW fun h=>hgm (HG.out.1 h)];rw[HX.out]at hgm;have hgi:(most:Int)<((beN bl:Nat):Int):=by omega
  have HMOST:=hid hmost;clear hgm hmost;rcases key with k1|⟨k1,k2,k3,k4⟩
  all_goals
   go_enter Tryz.func72,Tryz.ntmps72;go_wp2_with fail;refine(cD b l bad _ H.out).mono ?_;rintro e w1 ⟨rfl,rfl⟩;go_wp2_with fail
   go_loop [6,62] (fun n i=>∃k:Nat,k<=bl.length/\i = .int .i64 k/\n = .int .u64 (beN (bl.take k):Nat)) (fun _ i=>bl.length-(intOf i).toNat)
   case atStart=>exact⟨0,Nat.zero_le _,rfl,rfl⟩
   case round =>
    obtain⟨k,hk,rfl,rfl⟩:=hrel;by_cases hlt:k<bl.length
    ·obtain⟨b2,o2,rfl,hcell⟩:=HBC.out k hlt;have hx:bl[k]<256:=HB1.out.lt _ (List.getElem_mem hlt);have hsm:=HSM.out k hlt;have HS:=hid (iM bl k hlt);generalize bl[k]=z at hcell hx HS hsm;generalize beN (bl.take k)=n at HS hsm ⊢;have HV:=hid (sI n z hx hsm);clear hsm;go_wp2_with fail
     go_round
     case rel=>exact⟨k+1,by omega,by go_num,by rw[HV.out,HS.out]⟩
     case measure=>simp[intOf];omega
    ·obtain rfl:k=bl.length:=by omega
     go_wp2_with fail;refine(dB b l bad _ H.out).mono ?_;rintro e w1 ⟨rfl,h1,h2⟩;have H1:=hid h1;have H2:=hid h2;clear h1 h2;go_wp2_with fail
     go_ret2
     exact⟨rfl,H1.out,H2.out⟩

theorem uK (b most:Nat)(l:List Nat)(bad:Bool)(w:World)(h:bF w b rb l bad)(hmost:most<18446744073709551616) :
  Calls Tryz.prog 72 #[.pointer (some ⟨b,0,none⟩),.int .u64 most,.bool false] w (iA b rb most l bad w):=by
 by_cases h0:l = []
 ·subst h0;exact aIJ b most bad w h
 ·by_cases hb:eJ l
  ·exact aIK b most l bad w h (List.length_pos_iff.2 h0) hb
  ·exact aIL b most l bad w h hb hmost

theorem oO (b:Nat)(m:Int)(l:List Nat)(bad:Bool)(w:World)(h:bF w b rb l bad)(hm0:0<=m)(hmost:m<18446744073709551616) :
  Calls Tryz.prog 23 #[.pointer (some ⟨b,0,none⟩),.int .u64 m] w fun e w'=>e = .returned (.int .u64 (aF m.toNat l))/\bF w' b rb (fT m.toNat l) (bad || mM m.toNat l)/\Kept w w' (fun k=>k=b):=by
 obtain⟨n,rfl⟩:=Int.eq_ofNat_of_zero_le hm0;have C:=hid (uK b n l bad w h (by omega));rw[Int.toNat_natCast];clear h hm0 hmost;go_enter Tryz.func23,Tryz.ntmps23;go_wp2_with fail;refine C.out.mono ?_;rintro e w1 ⟨rfl,h1,h2⟩;have H1:=hid h1;have H2:=hid h2;clear h1 h2;go_wp2_with fail;go_ret;exact⟨rfl,H1.out,H2.out⟩
variable {rb:Nat}

theorem qJ (v:Value)(l:List Nat)(w:World)(hB:Bytes w v l)(hrb:l = []\/v.ownBlock=some rb)(hne:rb≠w.heap.size) :
  Calls Tryz.prog 22 #[v] w fun e w'=>e = .returned (.pointer (some ⟨w.heap.size,0,none⟩))/\bF w' w.heap.size rb l false/\Below w.heap.size w w':=by
 have H:=hid hB;have HV:=hid hrb;have HN:=hid hne;obtain⟨a,c,rfl,_⟩:=hB.shape;clear hB hrb hne;go_enter Tryz.func22,Tryz.ntmps22;go_wp2_with fail;go_ret;refine⟨rfl,⟨⟨_,by go_cell,H.out.alloc _,HV.out⟩,HN.out,by go_cell,?_,?_⟩,(Below.refl _ _).alloc (Nat.le_refl _) _⟩
 ·simp
 ·simp

theorem aIM (b n:Nat)(l:List Nat)(bad:Bool)(w:World)(h:bF w b rb l bad)(hn:n<=l.length) :
  Calls Tryz.prog 119 #[.pointer (some ⟨b,0,none⟩),.int .i64 n] w fun e w'=>∃v,e = .returned v/\Bytes w' v (l.take n)/\bF w' b rb (l.drop n) bad/\Kept w w' (fun k=>k=b):=by
 have H:=hid h;obtain⟨v,c0,hB,hvb⟩:=h.ex;have f0:=h.free0;obtain⟨v1,hB1,hcut1⟩:=hB.aMr Tryz.u8s n hn;obtain⟨v2,hB2,hv2,hcut2⟩:=hB.aAA Tryz.u8s n hn;have hv2':l.drop n = []\/v2.ownBlock=some rb:=by rw[hv2];exact hvb.imp (fun h=>by rw[h];simp) id
 have hlb:(l.length:Int)<=2097152:=by have:=hB.small;omega
 have hn':(n:Int)<=(l.length:Int):=by omega
 have hn0:¬(n:Int)<0:=by omega
 obtain⟨a,c,rfl,_⟩:=hB.shape;obtain⟨a2,c2,rfl,_⟩:=hB2.shape;rw[List.length_drop]at hcut2 hB2 hv2';have HB1:=hid hB1;have HB2:=hid hB2;have HV2:=hid hv2';have hs1:(ints (l.take n)).length<=2097152:=by rw[aD];exact hB1.small
 have HC0:=hid c0;have HF0:=hid f0;clear h hB hvb hn hB1 hB2 hv2 hv2';go_enter Tryz.func119,Tryz.ntmps119;go_wp2_with fail;refine(cD b l bad _ H.out).mono ?_;rintro e w1 ⟨rfl,rfl⟩;go_wp2_with fail;refine(rC _ _ _ HB1.out.rd hs1).mono ?_;rintro e w1 ⟨v3,rfl,hown,hb1⟩;have O1:=hid hown;have B1:=hid hb1;clear hown hb1 c0 f0;have c0:=Below.at B1.out HC0.out H.out.lt;have f0:w1.frozen? ⟨b,0,none⟩=false:=(H.out.below B1.out).free0;have O2:Hid (Bytes w1 v3 (l.take n)):=hid (Bytes.dJ O1.out HB1.out.lt HB1.out.small);have O3:Hid (v3.ownBlock≠some b):=hid fun e=>by have:=(O1.out.lt b e).1;have:=H.out.lt;omega
 go_wp2_with fail;go_ret;refine⟨_,rfl,O2.out.kept (Kept.setCell _ ⟨b,0,none⟩ _) fun k hk e=>O3.out (by rw[hk,e]),(H.out.below B1.out).set (HB2.out.below B1.out) HV2.out,?_⟩;exact(Kept.aQ B1.out (S:=fun k=>k=b) (fun k h1 h2=>by omega)).trans (Kept.setCell _ ⟨b,0,none⟩ _)

theorem fK (b:Nat)(l:List Nat)(bad:Bool)(w:World)(h:bF w b rb l bad) :
  Calls Tryz.prog 27 #[.pointer (some ⟨b,0,none⟩)] w fun e w'=>e = .returned (.int .i64 (lR l bad))/\w=w':=by
 obtain⟨v,c0,hB,_⟩:=h.ex;have c1:=h.bad;have hlb:(l.length:Int)<=2097152:=by have:=hB.small;omega
 obtain⟨a,c,rfl,_⟩:=hB.shape;cases bad with
 | true =>
  have HE:Hid (lR l true=20):=hid (by simp[lR]);clear h hB;go_enter Tryz.func27,Tryz.ntmps27;go_wp2_with fail;go_ret;exact⟨by rw[HE.out];rfl,rfl⟩
 | false =>
  by_cases h0:0<l.length
  ·have HE:Hid (lR l false=20):=hid (if_pos (.inr h0));have hl:(0:Int)<(l.length:Int):=by omega
   clear h hB h0;go_enter Tryz.func27,Tryz.ntmps27;go_wp2_with fail;go_ret;exact⟨by rw[HE.out];rfl,rfl⟩
  ·have HE:Hid (lR l false=0):=hid (if_neg fun h=>h.elim (fun h=>by cases h) h0);have hl:¬(0:Int)<(l.length:Int):=by omega
   clear h hB h0;go_enter Tryz.func27,Tryz.ntmps27;go_wp2_with fail;go_ret;exact⟨by rw[HE.out];rfl,rfl⟩

theorem yY (b most:Nat)(l:List Nat)(bad:Bool)(w:World)(h:bF w b rb l bad)(hm:most<=1000000) :
  Calls Tryz.prog 73 #[.pointer (some ⟨b,0,none⟩),.int .i64 most] w fun e w'=>e = .returned (.string (eS (fR most l)))/\bF w' b rb (nB most l) (bad || nA most l)/\Kept w w' (fun k=>k=b):=by
 have C:=hid (oO b most l bad w h (by omega) (by omega));have hm':(most:Int)<=1000000:=by omega
 have hm0:¬(most:Int)<0:=by omega
 have hvm:((aF most l:Nat):Int)<=1000000:=by have:=aU most l;omega
 have HN:Hid ((most:Int).toNat=most):=hid (Int.toNat_natCast _);have hsm:(fT most l).length<=2097152:=by
  obtain⟨v,_,hB,_⟩:=h.ex;have:=aKe most l;have:=hB.small;omega
 have hll:((fT most l).length:Int)<=2097152:=by omega
 clear h hm hsm;by_cases hg:fN most l
 ·have HG:=hid hg;have hgi:((aF most l:Nat):Int)<=((fT most l).length:Int):=by unfold fN at hg;omega
  have HV:Hid (fR most l=(fT most l).take (aF most l)/\nB most l=(fT most l).drop (aF most l)/\nA most l=mM most l):=hid (by simp[fR,nB,nA,hg]);have HGL:Hid (aF most l<=(fT most l).length):=hid hg;clear hg;go_enter Tryz.func73,Tryz.ntmps73;go_wp2_with fail;refine C.out.mono ?_;rintro e w1 ⟨rfl,h1,h2⟩;rw[HN.out]at h1 ⊢;have H1:=hid h1;have H2:=hid h2;clear h1 h2;go_wp2_with fail;refine(cD b _ _ _ H1.out).mono ?_;rintro e w2 ⟨rfl,rfl⟩;go_wp2_with fail;refine(aIM b (aF most l) _ _ _ H1.out HGL.out).mono ?_;rintro e w3 ⟨v3,rfl,hB3,h3,k3⟩;have HB3:=hid hB3;have H3:=hid h3;have K3:=hid k3;clear hB3 h3 k3
  go_wp2_with (refine pQ rfl 22 9 5 _ rfl Tryz.underlying22 Tryz.underlying5 Tryz.underlying9 _ _ rfl HB3.out ?_)
  go_ret;exact⟨by rw[HV.out.1];rfl,by rw[HV.out.2.1,HV.out.2.2];exact H3.out,H2.out.trans K3.out⟩
 ·have hgi:((fT most l).length:Int)<((aF most l:Nat):Int):=by unfold fN at hg;omega
  have HV:Hid (fR most l = []/\nB most l = []/\nA most l=true):=hid (by simp[fR,nB,nA,hg]);clear hg;go_enter Tryz.func73,Tryz.ntmps73;go_wp2_with fail;refine C.out.mono ?_;rintro e w1 ⟨rfl,h1,h2⟩;rw[HN.out]at h1 ⊢;have H1:=hid h1;have H2:=hid h2;clear h1 h2;go_wp2_with fail;refine(cD b _ _ _ H1.out).mono ?_;rintro e w2 ⟨rfl,rfl⟩;go_wp2_with fail;refine(dB b _ _ _ H1.out).mono ?_;rintro e w3 ⟨rfl,h3,k3⟩;have H3:=hid h3;have K3:=hid k3;clear h3 k3;go_wp2_with fail;go_ret;exact⟨by rw[HV.out.1];rfl,by rw[HV.out.2.1,HV.out.2.2,Bool.or_true];exact H3.out,H2.out.trans K3.out⟩
end Go.Proofs.YtgeihgombjbkbaaGreat
namespace Go.Proofs.Own
open Go Go.RowKit

structure dZ (w:World)(base:Nat)(e:TypeId)(sz:Nat)(v:Value)(rs:List (List Value)):Prop where
 own:w.ownsRow base e sz v rs.length rs.flatten
 each:∀r ∈ rs,r.length=sz
theorem dZ.nil (w:World)(base:Nat)(e:TypeId)(sz:Nat):dZ w base e sz (.slice none 0 0) []:=⟨World.ownsRow_nil w base e sz,nofun⟩
theorem dZ.lt {w:World}{base:Nat}{e:TypeId}{sz:Nat}{v:Value}{rs:List (List Value)}(h:dZ w base e sz v rs):∀b,v.ownBlock=some b->base<=b/\b<w.heap.size:=World.ownsRow.lt h.own
theorem dZ.shape {w:World}{base:Nat}{e:TypeId}{sz:Nat}{v:Value}{rs:List (List Value)}(h:dZ w base e sz v rs):∃a c,v = .slice a rs.length c:=by
 rcases h.own.2 with ⟨rfl,h0⟩|⟨g,cap,cur,rfl,_⟩
 ·exact⟨none,0,by rw[h0]⟩
 ·exact⟨_,_,rfl⟩
theorem dZ.kept {w w':World}{base:Nat}{e:TypeId}{sz:Nat}{v:Value}{rs:List (List Value)}{S:Nat->Prop}(h:dZ w base e sz v rs)(hk:Kept w w' S)(hs:∀b,v.ownBlock=some b -> ¬S b):dZ w' base e sz v rs:=by
 refine⟨⟨h.own.1,?_⟩,h.each⟩;rcases h.own.2 with hn|⟨g,cap,cur,rfl,hb,hg,r⟩
 ·exact .inl hn
 ·exact .inr ⟨g,cap,cur,rfl,hb,by rw[hk.block g (Array.getElem?_eq_some_iff.1 hg).1 (hs g rfl)];exact hg,r⟩
theorem dZ.below {w w':World}{base:Nat}{e:TypeId}{sz:Nat}{v:Value}{rs:List (List Value)}(h:dZ w base e sz v rs)(hb:Below w.heap.size w w'):dZ w' base e sz v rs :=
 h.kept (Kept.aQ hb (S:=fun _=>False) fun k h1 h2=>by omega) fun _ _ h=>h
theorem dZ.alloc {w:World}{base:Nat}{e:TypeId}{sz:Nat}{v:Value}{rs:List (List Value)}(h:dZ w base e sz v rs)(o:Obj):dZ (w.alloc o) base e sz v rs:=h.below ((Below.refl _ _).alloc (Nat.le_refl _) o)
theorem oF {sz:Nat}:∀ {rs:List (List Value)},(∀r ∈ rs,r.length=sz) -> ∀ {j:Nat} (hj:j<rs.length) {i:Nat} {x:Value},rs[j][i]? = some x->rs.flatten[j*sz+i]? = some x
 | [],_,j,hj,_,_,_=>absurd hj (Nat.not_lt_zero j)
 | r::rs,h,j,hj,i,x,hx=>by
  have hr:r.length=sz:=h r List.mem_cons_self;cases j with
  | zero =>
   have hx':r[i]? = some x:=by simpa using hx
   have hi:i<r.length:=(List.getElem?_eq_some_iff.1 hx').1;rw[List.flatten_cons,Nat.zero_mul,Nat.zero_add,List.getElem?_append_left hi];exact hx'
  | succ j =>
   have hx':(rs[j]'(by simpa using hj))[i]? = some x:=by simpa using hx
   rw[List.flatten_cons,List.getElem?_append_right (by rw[hr,Nat.add_mul];omega),hr,show (j+1)*sz+i-sz=j*sz+i by rw[Nat.add_mul];omega];exact oF (fun q hq=>h q (List.mem_cons_of_mem _ hq)) _ hx'
theorem eH {sz:Nat}:∀ {rs:List (List Value)},(∀r ∈ rs,r.length=sz)->rs.flatten.length=rs.length*sz
 | [],_=>by simp
 | r::rs,h=>by
  rw[List.flatten_cons,List.length_append,h r List.mem_cons_self,eH fun q hq=>h q (List.mem_cons_of_mem _ hq),List.length_cons,Nat.add_mul];omega

structure cM (P:Program)(t e:TypeId)(sz by':Nat):Prop where
 under:P.underlying t=some (.slice e)
 info:∃i z,P.info? e=some i/\i.zero=some z/\i.size=sz/\i.bytes=by'/\z.cells.size=sz
 pos:0<sz
 few:by'<=1024

theorem oV {P:Program}{t e:TypeId}{sz by':Nat}(I:cM P t e sz by')(w:World)(ty:TypeId)(base:Nat)(v:Value)(rs:List (List Value))(g:Nat)(r:List Value)
  (hown:dZ w base e sz v rs) (hr:r.length=sz) (hc:∀j u,r[j]? = some u->w.cell? ⟨g,j,none⟩=some u) (h1:∀u ∈ r,u.oneCell'=true) (hlen:rs.length<=4294967296) (hbase:base<=w.heap.size) :
  ∃v' w',(Builtin.append_ #[t,t] ty #[v,.slice (some ⟨g,0,none⟩) 1 1]).run P w = .ok v' w'/\dZ w' base e sz v' (rs ++ [r])/\w.grownBy w' v.ownBlock/\(v'.ownBlock=v.ownBlock\/v'.ownBlock=some w.heap.size)/\Below base w w':=by
 obtain⟨i,z,hi,hz,hs,hb,hzs⟩:=I.info;obtain⟨v',w',hrun,g1,g2,_,g4⟩:=run_append_own_at (P:=P) w base t ty e i z sz by' I.under hi hz hs hb hzs I.pos v rs.length rs.flatten hown.own ⟨g,0,none⟩ 1 1 r (by rw[hr];omega)
  (fun j u hu=>by rw[Addr.add_lit,Nat.zero_add];exact hc j u hu) h1 (by unfold maxLen;omega) (by have:=Nat.mul_le_mul (show rs.length+1<=4294967297 by omega) I.few;omega) hbase
 refine⟨v',w',hrun,⟨by rw[List.length_append,List.flatten_append];simpa using g1,?_⟩,g2,g4,(Below.refl _ _).grown g2 hbase fun k hk=>(hown.lt k hk).1⟩;intro q hq;rcases List.mem_append.1 hq with hq|hq
 ·exact hown.each q hq
 ·obtain rfl:=List.mem_singleton.1 hq;exact hr

section
variable {P:Program} {t e:TypeId} {sz by':Nat} (I:cM P t e sz by') {w:World} {o:Oper} {a:Act} {Q:Exit->Act->World->Prop} (s x:Operand)
 (ho:o.op = .call { callee:=.builtin .append,args:=#[s,x],argTypes:=#[t,t] }) (base:Nat) (v:Value) (rs:List (List Value)) (g:Nat) (r:List Value) (hs:a.eval s=v) (hx:a.eval x = .slice (some ⟨g,0,none⟩) 1 1)
 (hown:dZ w base e sz v rs) (hr:r.length=sz) (hc:∀j u,r[j]? = some u->w.cell? ⟨g,j,none⟩=some u) (h1:∀u ∈ r,u.oneCell'=true) (hlen:rs.length<=4294967296) (hbase:base<=w.heap.size)
include I ho hs hx hown hr hc h1 hlen hbase
theorem pR {K:Act->World->Prop}
  (h:∀v' w',dZ w' base e sz v' (rs ++ [r])->w.grownBy w' v.ownBlock->(v'.ownBlock=v.ownBlock\/v'.ownBlock=some w.heap.size)->Below base w w'->K (a.put o.dst v') w'):o.wp P a w K Q:=by
 obtain⟨v',w',hrun,k1,k2,k3,k4⟩:=oV I w o.type base v rs g r hown hr hc h1 hlen hbase;unfold Oper.wp execOp;simp only[ho,resolve,invoke,builtin,Sem.run_bind,Sem.run_pure,Result.andThen_ok,List.map_toArray,List.map_cons,List.map_nil,hs,hx,hrun];exact h v' w' k1 k2 k3 k4
theorem mB {ops:Array Oper}{rest:List Oper}(hgd:o.guard=none)
  (h:∀v' w',dZ w' base e sz v' (rs ++ [r])->w.grownBy w' v.ownBlock->(v'.ownBlock=v.ownBlock\/v'.ownBlock=some w.heap.size)->Below base w w'->wpList P ops Q rest (a.put o.dst v') w') :
  wpList P ops Q (o::rest) a w :=
 wpList_plain hgd fun _ hK=>pR I s x ho base v rs g r hs hx hown hr hc h1 hlen hbase fun v' w' k1 k2 k3 k4=>hK _ _ (h v' w' k1 k2 k3 k4)
end
end Go.Proofs.Own
namespace Go.Proofs.YtgeihgombjbkbaaGreat
open Go.RowKit Go.Maps Go.Proofs.Own
theorem aM.fU {w:World}{base:Nat}{e:TypeId}{sz:Nat}{v:Value}{rs:List (List Value)}(h:dZ w base e sz v rs):aM w sz v rs:=by
 have hw:=h.own;rcases h.own.2 with ⟨rfl,h0⟩|⟨g,cap,cur,rfl,_,hg,hn,_⟩
 ·have:rs = []:=List.eq_nil_of_length_eq_zero h0;subst this;exact aM.nil w sz
 ·refine⟨_,_,rfl,hn,fun j hj=>⟨g,0,rfl,(Array.getElem?_eq_some_iff.1 hg).1,fun i x hx=>?_⟩⟩;rw[Nat.zero_add];have hf:=oF h.each hj hx;have hlt:j*sz+i<rs.length*sz:=by
   have:=(List.getElem?_eq_some_iff.1 hf).1
   rwa [eH h.each]at this
  rw[hw.cellAt (j*sz+i) hlt];exact hf
end Go.Proofs.YtgeihgombjbkbaaGreat
namespace Go.Proofs.YtgeihgombjbkbaaGreat
open Go.Lib (hid)
open Go.RowKit Go.Maps Go.Proofs.Own
variable {rb:Nat}

def unm:List Nat->List Nat
 | []=>[]
 | c::r=>c % 128::r
theorem vM (l:List Nat):(unm l).getD 0 0=l.getD 0 0 % 128:=by cases l<;>rfl
theorem aI6 (l:List Nat):(unm l).getD 1 0=l.getD 1 0:=by cases l<;>rfl
theorem sJ (l:List Nat):(unm l).length=l.length:=by cases l<;>rfl
theorem pB (k:Nat)(l:List Nat):(unm l).drop (k+1)=l.drop (k+1):=by cases l<;>simp[unm]
def vX (most:Nat)(l:List Nat):Bool:=if eD most (unm l) then decide ((128:Int)<=(l.getD 0 0:Nat)) else false
def gI (b rb most:Nat)(l:List Nat)(bad:Bool)(w:World):Ending->World->Prop:=fun e w'=>e = .returned (.tuple #[.int .u64 (aF most (unm l)),.bool (vX most l)])/\bF w' b rb (fT most (unm l)) (bad || mM most (unm l))/\Kept w w' (fun k=>k=b)
theorem jV {b most:Nat}{l:List Nat}{bad:Bool}{w:World}(h:¬eD most (unm l)):gI b rb most l bad w=fun e w'=>e = .returned (.tuple #[.int .u64 0,.bool false])/\bF w' b rb [] true/\Kept w w' (fun k=>k=b):=by
 unfold gI aF fT mM vX;simp[h]
theorem rO {b most:Nat}{l:List Nat}{bad:Bool}{w:World}(h:eD most (unm l)):gI b rb most l bad w=fun e w'=>e = .returned (.tuple #[.int .u64 (mN (unm l)),.bool (decide ((128:Int)<=(l.getD 0 0:Nat)))])/\bF w' b rb (l.drop (l.getD 0 0 % 128+1)) bad/\Kept w w' (fun k=>k=b):=by
 unfold gI aF fT mM vX;rw[pB,vM];simp[h]

theorem aIG (b most:Nat)(bad:Bool)(w:World)(h:bF w b rb [] bad) :
  Calls Tryz.prog 72 #[.pointer (some ⟨b,0,none⟩),.int .u64 most,.bool true] w (gI b rb most [] bad w):=by
 rw[jV (by simp[eD,eJ,unm])];have H:=hid h;clear h;go_enter Tryz.func72,Tryz.ntmps72;go_wp2_with fail;refine(cD b [] bad _ H.out).mono ?_;rintro e w1 ⟨rfl,rfl⟩;go_wp2_with fail;refine(dB b [] bad _ H.out).mono ?_;rintro e w1 ⟨rfl,h1,h2⟩;have H1:=hid h1;have H2:=hid h2;clear h1 h2;go_wp2_with fail
 go_ret2
 exact⟨rfl,H1.out,H2.out⟩

theorem aIH (b most:Nat)(l:List Nat)(bad:Bool)(w:World)(h:bF w b rb l bad)(hne:0<l.length)(hbad:eJ (unm l)) :
  Calls Tryz.prog 72 #[.pointer (some ⟨b,0,none⟩),.int .u64 most,.bool true] w (gI b rb most l bad w):=by
 rw[jV fun h=>h.1 hbad];have H:=hid h;obtain⟨v,c0,hB,_⟩:=h.ex;obtain⟨b1,o1,c,rfl,hle,hbs,hcell⟩:=hB.eR hne;have d0:w.cell? ⟨b1,o1,none⟩=some (.int .u8 (l.getD 0 0:Nat)):=hcell 0 hne;have d1:1<l.length->w.cell? ⟨b1,o1+1,none⟩=some (.int .u8 (l.getD 1 0:Nat)):=fun h=>hcell 1 h;have x0:=hB.dH 0;have x1:=hB.dH 1;have hlb:(l.length:Int)<=2097152:=by have:=hB.small;omega
 have hl0:((l.length:Int)==0)=false:=beq_eq_false_iff_ne.2 (by omega);have i0:(0:Int)<(l.length:Int):=by omega
 unfold eJ at hbad;rw[vM,aI6,sJ]at hbad;generalize l.getD 0 0=z at d0 x0 hbad;generalize l.getD 1 0=y at d1 x1 hbad;have hz:(z:Int).tmod 128=((z % 128:Nat):Int):=(Int.ofNat_tmod z 128).symm;generalize z % 128=x at hbad hz;have key:((8:Int)<(x:Int))\/((x:Int)<=8/\(l.length:Int)<=(x:Int))\/((x:Int)<=8/\(x:Int)<(l.length:Int)/\(0:Int)<(x:Int)/\((y:Int)==0)=true):=by
  by_cases h8:8<x
  ·exact .inl (by omega)
  ·by_cases hll:l.length<=x
   ·exact .inr (.inl ⟨by omega,by omega⟩)
   ·exact .inr (.inr ⟨by omega,by omega,by omega,by simp;omega⟩)
 clear h hB hcell hle hbad hne;rcases key with k1|⟨k1,k2⟩|⟨k1,k2,k3,k4⟩
 ·clear d1;go_enter Tryz.func72,Tryz.ntmps72;go_wp2_with fail;refine(cD b l bad _ H.out).mono ?_;rintro e w1 ⟨rfl,rfl⟩;go_wp2_with fail;refine(dB b l bad _ H.out).mono ?_;rintro e w1 ⟨rfl,h1,h2⟩;have H1:=hid h1;have H2:=hid h2;clear h1 h2;go_wp2_with fail
  go_ret2
  exact⟨rfl,H1.out,H2.out⟩
 ·clear d1;go_enter Tryz.func72,Tryz.ntmps72;go_wp2_with fail;refine(cD b l bad _ H.out).mono ?_;rintro e w1 ⟨rfl,rfl⟩;go_wp2_with fail;refine(dB b l bad _ H.out).mono ?_;rintro e w1 ⟨rfl,h1,h2⟩;have H1:=hid h1;have H2:=hid h2;clear h1 h2;go_wp2_with fail
  go_ret2
  exact⟨rfl,H1.out,H2.out⟩
 ·have d1':=d1 (by omega);have i1:(1:Int)<(l.length:Int):=by omega
  clear d1;go_enter Tryz.func72,Tryz.ntmps72;go_wp2_with fail;refine(cD b l bad _ H.out).mono ?_;rintro e w1 ⟨rfl,rfl⟩;go_wp2_with fail;refine(dB b l bad _ H.out).mono ?_;rintro e w1 ⟨rfl,h1,h2⟩;have H1:=hid h1;have H2:=hid h2;clear h1 h2;go_wp2_with fail
  go_ret2
  exact⟨rfl,H1.out,H2.out⟩

theorem aII (b most:Nat)(l:List Nat)(bad:Bool)(w:World)(h:bF w b rb l bad)(hb:¬eJ (unm l))(hmost:most<18446744073709551616) :
  Calls Tryz.prog 72 #[.pointer (some ⟨b,0,none⟩),.int .u64 most,.bool true] w (gI b rb most l bad w):=by
 have H:=hid h;obtain⟨v,c0,hB,hvb⟩:=h.ex;have f0:=h.free0;have hx8:l.getD 0 0 % 128<=8/\l.getD 0 0 % 128<l.length:=by unfold eJ at hb;rw[vM,aI6,sJ]at hb;omega
 have hy:0<l.getD 0 0 % 128->l.getD 1 0≠0:=by unfold eJ at hb;rw[vM,aI6,sJ]at hb;omega
 have hz:(l.getD 0 0:Int).tmod 128=((l.getD 0 0 % 128:Nat):Int):=(Int.ofNat_tmod (l.getD 0 0) 128).symm;obtain⟨v1,hB1,hcut1⟩:=hB.aMs Tryz.u8s 1 (l.getD 0 0 % 128+1) (by omega) (by omega);obtain⟨v2,hB2,hv2,hcut2⟩:=hB.aAA Tryz.u8s (l.getD 0 0 % 128+1) (by omega);have e1:(l.take (l.getD 0 0 % 128+1)).drop 1=(l.drop 1).take (l.getD 0 0 % 128):=by rw[List.drop_take];congr 1
 rw[e1]at hB1;have HX:Hid (mN (unm l)=beN ((l.drop 1).take (l.getD 0 0 % 128))):=hid (by unfold mN;rw[pB 0,vM]);obtain⟨b1,o1,c,rfl,hle,hbs,hcell⟩:=hB.eR (by omega);have d0:w.cell? ⟨b1,o1,none⟩=some (.int .u8 (l.getD 0 0:Nat)):=hcell 0 (by omega);have d1:0<l.getD 0 0 % 128->w.cell? ⟨b1,o1+1,none⟩=some (.int .u8 (l.getD 1 0:Nat)):=fun h=>hcell 1 (by omega);have x0:=hB.dH 0;have x1:=hB.dH 1;have hlb:(l.length:Int)<=2097152:=by have:=hB.small;omega
 have hl0:((l.length:Int)==0)=false:=beq_eq_false_iff_ne.2 (by omega);have i0:(0:Int)<(l.length:Int):=by omega
 have hlen1:((l.drop 1).take (l.getD 0 0 % 128)).length=l.getD 0 0 % 128:=by rw[List.length_take,List.length_drop];omega
 have HG:Hid (eD most (unm l) ↔ mN (unm l)<=most):=hid ⟨fun h=>h.2,fun h=>⟨hb,h⟩⟩;have hv2':l.drop (l.getD 0 0 % 128+1) = []\/v2.ownBlock=some rb:=by rw[hv2];exact hvb.imp (fun h=>by rw[h];simp) id
 have HB2:=hid hB2;clear h hB hcell hle hb e1 hvb hv2 hB2;generalize hrest:l.drop (l.getD 0 0 % 128+1)=rest at HB2 hv2';generalize hbl:(l.drop 1).take (l.getD 0 0 % 128)=bl at hB1 HX hlen1;have HREST:=hid hrest;clear hbl hrest;generalize hxx:l.getD 0 0 % 128=x at *
 generalize hzz:l.getD 0 0=z at *
 have HXX:=hid hxx;clear hxx;generalize l.getD 1 0=y at *
 have key:(x:Int)<=0\/((0:Int)<(x:Int)/\((y:Int)==0)=false/\w.cell? ⟨b1,o1+1,none⟩=some (.int .u8 (y:Nat))/\(1:Int)<(l.length:Int)):=by
  by_cases h0:x=0
  ·exact .inl (by omega)
  ·exact .inr ⟨by omega,by have:=hy (by omega);simp;omega,d1 (by omega),by omega⟩
 have k8:(x:Int)<=8:=by omega
 have kl:(x:Int)<(l.length:Int):=by omega
 obtain⟨a1,c1,rfl,_⟩:=hB1.shape;have hcut1':∀w',(Instr.slice 22 (.slice (some ⟨b1,o1,none⟩) l.length c) (some (.int .i64 1)) (some (.int .i64 ((x:Int)+1))) none).run Tryz.prog w' = .ok (.slice a1 bl.length c1) w':=hcut1;have hcut2':∀w',(Instr.slice 22 (.slice (some ⟨b1,o1,none⟩) l.length c) (some (.int .i64 ((x:Int)+1))) none none).run Tryz.prog w' = .ok v2 w':=hcut2;have HL1:=hid hlen1;have HB1:=hid hB1;have HBC:=hid hB1.cells.2.2;have hx8':bl.length<=8:=by omega
 obtain⟨a2,c2,rfl,_⟩:=HB2.out.shape;clear hcut1 hcut2 hlen1 hB1 hx8 hy d1;have HSM:Hid (∀k (h:k<bl.length),beN (bl.take k)*256+bl[k]<18446744073709551616):=hid fun k h=>by
  rw[<- iM bl k h];exact pU (fun c hc=>HB1.out.lt c (List.mem_of_mem_take hc)) (by rw[List.length_take];omega)
 have HSET:Hid (bF (w.setCell ⟨b,0,none⟩ (.slice a2 rest.length c2)) b rb rest bad):=hid (H.out.set HB2.out hv2');clear hv2';by_cases hgm:mN (unm l)<=most
 ·rw[rO (HG.out.2 hgm)];rw[HX.out]at hgm ⊢;have hgi:¬(most:Int)<((beN bl:Nat):Int):=by omega
  have HMOST:=hid hmost;rw[hzz,HXX.out,HREST.out];clear hgm hmost;rcases key with k1|⟨k1,k2,k3,k4⟩
  all_goals
   go_enter Tryz.func72,Tryz.ntmps72;go_wp2_with fail;refine(cD b l bad _ H.out).mono ?_;rintro e w1 ⟨rfl,rfl⟩;go_wp2_with fail
   go_loop [6,62] (fun n i=>∃k:Nat,k<=bl.length/\i = .int .i64 k/\n = .int .u64 (beN (bl.take k):Nat)) (fun _ i=>bl.length-(intOf i).toNat)
   case atStart=>exact⟨0,Nat.zero_le _,rfl,rfl⟩
   case round =>
    obtain⟨k,hk,rfl,rfl⟩:=hrel;by_cases hlt:k<bl.length
    ·obtain⟨b2,o2,rfl,hcell⟩:=HBC.out k hlt;have hx:bl[k]<256:=HB1.out.lt _ (List.getElem_mem hlt);have hsm:=HSM.out k hlt;have HS:=hid (iM bl k hlt);generalize bl[k]=z at hcell hx HS hsm;generalize beN (bl.take k)=n at HS hsm ⊢;have HV:=hid (sI n z hx hsm);clear hsm;go_wp2_with fail
     go_round
     case rel=>exact⟨k+1,by omega,by go_num,by rw[HV.out,HS.out]⟩
     case measure=>simp[intOf];omega
    ·obtain rfl:k=bl.length:=by omega
     go_wp2_with fail
     go_ret2
     exact⟨rfl,HSET.out,Kept.setCell w ⟨b,0,none⟩ _⟩
 ·rw[jV fun h=>hgm (HG.out.1 h)];rw[HX.out]at hgm;have hgi:(most:Int)<((beN bl:Nat):Int):=by omega
  have HMOST:=hid hmost;clear hgm hmost;rcases key with k1|⟨k1,k2,k3,k4⟩
  all_goals
   go_enter Tryz.func72,Tryz.ntmps72;go_wp2_with fail;refine(cD b l bad _ H.out).mono ?_;rintro e w1 ⟨rfl,rfl⟩;go_wp2_with fail
   go_loop [6,62] (fun n i=>∃k:Nat,k<=bl.length/\i = .int .i64 k/\n = .int .u64 (beN (bl.take k):Nat)) (fun _ i=>bl.length-(intOf i).toNat)
   case atStart=>exact⟨0,Nat.zero_le _,rfl,rfl⟩
   case round =>
    obtain⟨k,hk,rfl,rfl⟩:=hrel;by_cases hlt:k<bl.length
    ·obtain⟨b2,o2,rfl,hcell⟩:=HBC.out k hlt;have hx:bl[k]<256:=HB1.out.lt _ (List.getElem_mem hlt);have hsm:=HSM.out k hlt;have HS:=hid (iM bl k hlt);generalize bl[k]=z at hcell hx HS hsm;generalize beN (bl.take k)=n at HS hsm ⊢;have HV:=hid (sI n z hx hsm);clear hsm;go_wp2_with fail
     go_round
     case rel=>exact⟨k+1,by omega,by go_num,by rw[HV.out,HS.out]⟩
     case measure=>simp[intOf];omega
    ·obtain rfl:k=bl.length:=by omega
     go_wp2_with fail;refine(dB b l bad _ H.out).mono ?_;rintro e w1 ⟨rfl,h1,h2⟩;have H1:=hid h1;have H2:=hid h2;clear h1 h2;go_wp2_with fail
     go_ret2
     exact⟨rfl,H1.out,H2.out⟩

theorem uJ (b most:Nat)(l:List Nat)(bad:Bool)(w:World)(h:bF w b rb l bad)(hmost:most<18446744073709551616) :
  Calls Tryz.prog 72 #[.pointer (some ⟨b,0,none⟩),.int .u64 most,.bool true] w (gI b rb most l bad w):=by
 by_cases h0:l = []
 ·subst h0;exact aIG b most bad w h
 ·by_cases hb:eJ (unm l)
  ·exact aIH b most l bad w h (List.length_pos_iff.2 h0) hb
  ·exact aII b most l bad w h hb hmost
def jO:Nat:=9223372036854775807
def iY (l:List Nat):Int:=if vX jO l then -1-(aF jO (unm l):Int) else aF jO (unm l)
def yK (l:List Nat):List Nat:=fT jO (unm l)
def aH5 (l:List Nat):Bool:=mM jO (unm l)
theorem aH6 (l:List Nat):-9223372036854775808<=iY l/\iY l<9223372036854775808:=by
 have:=aU jO (unm l);unfold iY;unfold jO at *
 split<;>omega
theorem aIF (b:Nat)(l:List Nat)(bad:Bool)(w:World)(h:bF w b rb l bad) :
  Calls Tryz.prog 24 #[.pointer (some ⟨b,0,none⟩)] w fun e w'=>e = .returned (.int .i64 (iY l))/\bF w' b rb (yK l) (bad || aH5 l)/\Kept w w' (fun k=>k=b):=by
 have C:=hid (uJ b jO l bad w h (by decide));have hle:(aF jO (unm l):Int)<=9223372036854775807:=by have:=aU jO (unm l);unfold jO at *;omega
 unfold gI at C;unfold iY yK aH5;rw[show ((jO:Nat):Int)=9223372036854775807 from rfl]at C;generalize aF jO (unm l)=n at C hle;clear h;generalize vX jO l=m at C ⊢;cases m
 all_goals
  go_enter Tryz.func24,Tryz.ntmps24;go_wp2_with fail;refine C.out.mono ?_;rintro e w1 ⟨rfl,h1,h2⟩;have H1:=hid h1;have H2:=hid h2;clear h1 h2;go_wp2_with fail;go_ret;exact⟨by first|rfl|(simp;done),H1.out,H2.out⟩
theorem aID (b:Nat)(l:List Nat)(bad:Bool)(w:World)(h:bF w b rb l bad) :
  Calls Tryz.prog 25 #[.pointer (some ⟨b,0,none⟩)] w fun e w'=>e = .returned (.bool bad)/\w=w':=by
 have c1:=h.bad;clear h;go_enter Tryz.func25,Tryz.ntmps25;go_wp2_with fail;go_ret;exact⟨rfl,rfl⟩
end Go.Proofs.YtgeihgombjbkbaaGreat
namespace Go.Proofs.YtgeihgombjbkbaaGreat
open Go.RowKit Go.Maps Go.Proofs.Own

structure aO where
 f:Int
 t:Int
deriving DecidableEq
def spV (s:aO):List Value:=[.int .i64 s.f,.int .i64 s.t]
def fQ (s:aO):Bool:=decide (0<=s.f)&&decide (s.f<s.t)&&decide (s.t<=1125899906842624)
def rowE:Int->List aO->Bool
 | _,[]=>true
 | e,s::l=>fQ s&&decide (e<=s.f)&&rowE s.t l
def bI (l:List aO):Int:=if 32<l.length then 21 else if rowE 0 l then 0 else 2
theorem qM {e:Int}{l:List aO}{j:Nat}(h:j<l.length):rowE e (l.drop j)=(fQ l[j]&&decide (e<=l[j].f)&&rowE l[j].t (l.drop (j+1))):=by
 rw[List.drop_eq_getElem_cons h,rowE]
end Go.Proofs.YtgeihgombjbkbaaGreat
namespace Go.Proofs.YtgeihgombjbkbaaGreat
open Go.Lib (hid)
open Go.RowKit Go.Maps Go.Proofs.Own

theorem aP {n0:Nat}{w w':World}{a:Addr}{v:Value}(hb:Below n0 w w')(h:w.cell? a=some v)(ha:a.block<n0):w'.cell? a=some v:=by
 rw[World.cell?_of_block (w':=w') (w:=w) (a:=a) (hb.block a.block ha)];exact h
theorem dO {w w1 w2:World}{o:Obj}(h:Below w.heap.size w w1)(h2:Below (w1.alloc o).heap.size (w1.alloc o) w2):Below w.heap.size w w2 :=
 (h.alloc h.size o).trans (h2.mono (by have:=h.size;simp only[World.size_alloc];omega))
theorem lJ (f t:Int)(w:World):Calls Tryz.prog 424 #[.agg #[.int .i64 f,.int .i64 t]] w fun e w'=>e = .returned (.bool (fQ ⟨f,t⟩))/\Below w.heap.size w w':=by
 by_cases h1:0<=f
 ·by_cases h2:f<t
  ·by_cases h3:t<=1125899906842624
   ·have HE:Hid (fQ ⟨f,t⟩=true):=hid (by unfold fQ;simp[h1,h2,h3]);go_enter Tryz.func424,Tryz.ntmps424;go_wp2_with fail;go_ret;exact⟨by rw[HE.out];rfl,(Below.refl _ _).alloc (Nat.le_refl _) _⟩
   ·have HE:Hid (fQ ⟨f,t⟩=false):=hid (by unfold fQ;simp[h3]);go_enter Tryz.func424,Tryz.ntmps424;go_wp2_with fail;go_ret;exact⟨by rw[HE.out];rfl,(Below.refl _ _).alloc (Nat.le_refl _) _⟩
  ·have HE:Hid (fQ ⟨f,t⟩=false):=hid (by unfold fQ;simp[h2]);go_enter Tryz.func424,Tryz.ntmps424;go_wp2_with fail;go_ret;exact⟨by rw[HE.out];rfl,(Below.refl _ _).alloc (Nat.le_refl _) _⟩
 ·have HE:Hid (fQ ⟨f,t⟩=false):=hid (by unfold fQ;simp[h1]);go_enter Tryz.func424,Tryz.ntmps424;go_wp2_with fail;go_ret;exact⟨by rw[HE.out];rfl,(Below.refl _ _).alloc (Nat.le_refl _) _⟩
theorem aM.sp {w:World}{a:Option Addr}{n c:Nat}{l:List aO}(h:aM w 2 (.slice a n c) (l.map spV)){j:Nat}(hj:j<l.length):∃b o,a=some ⟨b,o,none⟩/\b<w.heap.size/\w.cell? ⟨b,o+j*2,none⟩=some (.int .i64 l[j].f)/\w.cell? ⟨b,o+j*2+1,none⟩=some (.int .i64 l[j].t):=by
 obtain⟨b,o,e,hb,hc⟩:=h.at (j:=j) (by simpa using hj);rw[List.getElem_map]at hc;exact⟨b,o,e,hb,hc 0 _ rfl,hc 1 _ rfl⟩
theorem uG (l:List aO)(a:Option Addr)(n c:Nat)(w:World)(hr:aM w 2 (.slice a n c) (l.map spV))(hln:l.length=n)(hl:n<=maxLen) :
  Calls Tryz.prog 341 #[.slice a n c] w fun e w'=>e = .returned (.int .i64 (bI l))/\Below w.heap.size w w':=by
 unfold maxLen at hl;have HR:=hid hr;have HL:=hid hln;clear hr hln;by_cases h32:n<=32
 ·have b1:¬(32:Int)<(n:Int):=by omega
  have HE:Hid (bI l=if rowE 0 l then 0 else 2):=hid (by unfold bI;rw[if_neg (by have:=HL.out;omega)]);go_enter Tryz.func341,Tryz.ntmps341;go_wp2_with fail
  go_loopw [3,11] (fun e i wr=>∃(j:Nat) (en:Int),e = .int .i64 en/\i = .int .i64 j/\j<=n/\rowE 0 l=rowE en (l.drop j)/\Below w.heap.size w wr) (fun _ i _=>n-(intOf i).toNat)
  case atStart=>exact⟨0,0,rfl,rfl,Nat.zero_le _,rfl,Below.refl _ _⟩
  case round =>
   obtain⟨j,en,rfl,rfl,hj,hrow,hb⟩:=hrel;have HB:=hid hb;have HW:=hid hrow;clear hb hrow;by_cases hlt:j<n
   ·have hjl:j<l.length:=by have:=HL.out;omega
    obtain⟨b,o,rfl,hbl,x0,x1⟩:=HR.out.sp hjl;have x0:=aP HB.out x0 hbl;have x1:=aP HB.out x1 hbl;have HD:Hid (rowE 0 l=(fQ l[j]&&decide (en<=l[j].f)&&rowE l[j].t (l.drop (j+1)))):=hid (by rw[HW.out,qM hjl]);generalize l[j]=s at x0 x1 HD;obtain⟨f,t⟩:=s;simp only at x0 x1 HD;cases hok:fQ ⟨f,t⟩ with
    | true =>
     by_cases hen:f<en
     ·have HE2:Hid (bI l=2):=hid (by rw[HE.out,HD.out,hok,decide_eq_false (show ¬en<=f by omega)];rfl);go_wp2_with fail;refine(lJ f t _).mono ?_;rintro e w1 ⟨rfl,hb1⟩;rw[hok];have c0:=Below.at hb1 (show World.cell? _ ⟨wr.heap.size,0,none⟩=some (.int .i64 f) by go_cell) (by simp);have BB:Hid (Below w.heap.size w w1):=hid (dO HB.out hb1);clear hb1;go_wp2_with fail;go_ret;exact⟨by rw[HE2.out];rfl,BB.out⟩
     ·have HD2:Hid (rowE 0 l=rowE t (l.drop (j+1))):=hid (by rw[HD.out,hok,decide_eq_true (show en<=f by omega)];rfl);go_wp2_with fail;refine(lJ f t _).mono ?_;rintro e w1 ⟨rfl,hb1⟩;rw[hok];have c0:=Below.at hb1 (show World.cell? _ ⟨wr.heap.size,0,none⟩=some (.int .i64 f) by go_cell) (by simp);have c1:=Below.at hb1 (show World.cell? _ ⟨wr.heap.size,1,none⟩=some (.int .i64 t) by go_cell) (by simp);have BB:Hid (Below w.heap.size w w1):=hid (dO HB.out hb1);clear hb1;go_wp2_with fail
      go_roundw
      case rel=>exact⟨j+1,t,rfl,by first|rfl|go_num,by omega,HD2.out,BB.out⟩
      all_goals (show n-((j:Int)+1).toNat<n-((j:Int)).toNat;omega)
    | false =>
     have HE2:Hid (bI l=2):=hid (by rw[HE.out,HD.out,hok];simp);go_wp2_with fail;refine(lJ f t _).mono ?_;rintro e w1 ⟨rfl,hb1⟩;rw[hok];have BB:Hid (Below w.heap.size w w1):=hid (dO HB.out hb1);clear hb1;go_wp2_with fail;go_ret;exact⟨by rw[HE2.out];rfl,BB.out⟩
   ·obtain rfl:j=n:=by omega
    have HE2:Hid (bI l=0):=hid (by rw[HE.out,HW.out,List.drop_eq_nil_of_le (by have:=HL.out;omega)];rfl);go_wp2_with fail;go_ret;exact⟨by rw[HE2.out];rfl,HB.out⟩
 ·have b1:(32:Int)<(n:Int):=by omega
  have HE:Hid (bI l=21):=hid (by unfold bI;rw[if_pos (by have:=HL.out;omega)]);go_enter Tryz.func341,Tryz.ntmps341;go_wp2_with fail;go_ret;exact⟨by rw[HE.out];rfl,Below.refl _ _⟩
theorem fM {α:Type}{l m:List α}{j:Nat}(h:l.take j=m.take j)(hl:j<l.length)(hm:j<m.length)(e:l[j]=m[j]):l.take (j+1)=m.take (j+1):=by
 rw[List.take_succ_eq_append_getElem hl,List.take_succ_eq_append_getElem hm,h,e]
theorem qG (f t f2 t2:Int)(w:World):Calls Tryz.prog 193 #[.agg #[.int .i64 f,.int .i64 t],.agg #[.int .i64 f2,.int .i64 t2]] w fun e w'=>e = .returned (.bool (decide (f=f2/\t=t2)))/\Below w.heap.size w w':=by
 by_cases h1:f=f2
 ·by_cases h2:t=t2
  ·have HE:Hid (decide (f=f2/\t=t2)=true):=hid (decide_eq_true ⟨h1,h2⟩);subst h1 h2;go_enter Tryz.func193,Tryz.ntmps193;go_wp2_with fail;go_ret;exact⟨by first|(rw[HE.out];rfl)|rfl,((Below.refl _ _).alloc (Nat.le_refl _) _).alloc (by simp) _⟩
  ·have HE:Hid (decide (f=f2/\t=t2)=false):=hid (decide_eq_false fun h=>h2 h.2);clear h1;go_enter Tryz.func193,Tryz.ntmps193;go_wp2_with fail;go_ret;exact⟨by first|(rw[HE.out];rfl)|rfl,((Below.refl _ _).alloc (Nat.le_refl _) _).alloc (by simp) _⟩
 ·have HE:Hid (decide (f=f2/\t=t2)=false):=hid (decide_eq_false fun h=>h1 h.1);go_enter Tryz.func193,Tryz.ntmps193;go_wp2_with fail;go_ret;exact⟨by first|(rw[HE.out];rfl)|rfl,((Below.refl _ _).alloc (Nat.le_refl _) _).alloc (by simp) _⟩
theorem aIu (l m:List aO)(a a2:Option Addr)(n n2 c c2:Nat)(w:World)(hr:aM w 2 (.slice a n c) (l.map spV))(hr2:aM w 2 (.slice a2 n2 c2) (m.map spV))(hln:l.length=n)(hln2:m.length=n2)(hl:n<=maxLen) :
  Calls Tryz.prog 192 #[.slice a n c,.slice a2 n2 c2,.func (.func 193) #[] #[]] w fun e w'=>e = .returned (.bool (decide (l=m)))/\Below w.heap.size w w':=by
 unfold maxLen at hl;have HR:=hid hr;have HL:=hid hln;have HR2:=hid hr2;have HL2:=hid hln2;clear hr hln hr2 hln2;by_cases hnn:n=n2
 ·subst hnn;go_enter Tryz.func192,Tryz.ntmps192;go_wp2_with fail
  go_loopw [17] (fun i wr=>∃(j:Nat),i = .int .i64 j/\j<=n/\l.take j=m.take j/\Below w.heap.size w wr) (fun i _=>n-(intOf i).toNat)
  case atStart=>exact⟨0,rfl,Nat.zero_le _,rfl,Below.refl _ _⟩
  case round =>
   obtain⟨j,rfl,hj,hrow,hb⟩:=hrel;have HB:=hid hb;have HW:=hid hrow;clear hb hrow;by_cases hlt:j<n
   ·have hjl:j<l.length:=by have:=HL.out;omega
    have hjm:j<m.length:=by have:=HL2.out;omega
    obtain⟨b,o,rfl,hbl,x0,x1⟩:=HR.out.sp hjl;obtain⟨b2,o2,rfl,hbl2,y0,y1⟩:=HR2.out.sp hjm;have x0:=aP HB.out x0 hbl;have x1:=aP HB.out x1 hbl;have y0:=aP HB.out y0 hbl2;have y1:=aP HB.out y1 hbl2;have y0:=fun o=>aR y0 o;have y1:=fun o=>aR y1 o;by_cases he:l[j]=m[j]
    ·have HT:Hid (l.take (j+1)=m.take (j+1)):=hid (fM HW.out hjl hjm he);rw[<- he]at y0 y1;generalize l[j]=s at x0 x1 y0 y1;obtain⟨f,t⟩:=s;simp only at x0 x1 y0 y1;go_wp2_with fail;refine(qG f t f t _).mono ?_;rintro e w1 ⟨rfl,hb1⟩;rw[decide_eq_true (⟨rfl,rfl⟩:f=f/\t=t)];have BB:Hid (Below w.heap.size w w1):=hid (dO (HB.out.alloc HB.out.size _) hb1);clear hb1;go_wp2_with fail
     go_roundw
     case rel=>exact⟨j+1,by first|rfl|go_num,by omega,HT.out,BB.out⟩
     all_goals (show n-((j:Int)+1).toNat<n-((j:Int)).toNat;omega)
    ·have HE:Hid (decide (l=m)=false):=hid (decide_eq_false fun h=>he (by subst h;rfl));generalize l[j]=s at x0 x1 he;generalize m[j]=s2 at y0 y1 he;obtain⟨f,t⟩:=s;obtain⟨f2,t2⟩:=s2;simp only at x0 x1 y0 y1;have HN:Hid (decide (f=f2/\t=t2)=false):=hid (decide_eq_false fun h=>he (by rw[h.1,h.2]));clear he;go_wp2_with fail;refine(qG f t f2 t2 _).mono ?_;rintro e w1 ⟨rfl,hb1⟩;rw[HN.out];have BB:Hid (Below w.heap.size w w1):=hid (dO (HB.out.alloc HB.out.size _) hb1);clear hb1;go_wp2_with fail;go_ret;exact⟨by rw[HE.out];rfl,BB.out⟩
   ·obtain rfl:j=n:=by omega
    have HE:Hid (decide (l=m)=true):=hid (decide_eq_true (by
     have:=HW.out
     rwa [List.take_of_length_le (by rw[HL.out];exact Nat.le_refl _),List.take_of_length_le (by rw[HL2.out];exact Nat.le_refl _)]at this))
    go_wp2_with fail;go_ret;exact⟨by rw[HE.out];rfl,HB.out⟩
 ·have HE:Hid (decide (l=m)=false):=hid (decide_eq_false fun h=>hnn (by rw[<- HL.out,<- HL2.out,h]));have hni:¬(n:Int)=(n2:Int):=by omega
  go_enter Tryz.func192,Tryz.ntmps192;go_wp2_with fail;go_ret;exact⟨by rw[HE.out];rfl,Below.refl _ _⟩

theorem oU (l m:List aO)(a a2:Option Addr)(n n2 c c2:Nat)(w:World)(hr:aM w 2 (.slice a n c) (l.map spV))(hr2:aM w 2 (.slice a2 n2 c2) (m.map spV))(hln:l.length=n)(hln2:m.length=n2)(hl:n<=maxLen) :
  Calls Tryz.prog 184 #[.slice a n c,.slice a2 n2 c2] w fun e w'=>e = .returned (.bool (decide (l=m)))/\Below w.heap.size w w':=by
 unfold maxLen at hl;have HR:=hid hr;have HL:=hid hln;have HR2:=hid hr2;have HL2:=hid hln2;clear hr hln hr2 hln2;by_cases hnn:n=n2
 ·subst hnn;go_enter Tryz.func184,Tryz.ntmps184;go_wp2_with fail
  go_loopw [5] (fun i wr=>∃(j:Nat),i = .int .i64 j/\j<=n/\l.take j=m.take j/\Below w.heap.size w wr) (fun i _=>n-(intOf i).toNat)
  case atStart=>exact⟨0,rfl,Nat.zero_le _,rfl,Below.refl _ _⟩
  case round =>
   obtain⟨j,rfl,hj,hrow,hb⟩:=hrel;have HB:=hid hb;have HW:=hid hrow;clear hb hrow;by_cases hlt:j<n
   ·have hjl:j<l.length:=by have:=HL.out;omega
    have hjm:j<m.length:=by have:=HL2.out;omega
    obtain⟨b,o,rfl,hbl,x0,x1⟩:=HR.out.sp hjl;obtain⟨b2,o2,rfl,hbl2,y0,y1⟩:=HR2.out.sp hjm;have x0:=aP HB.out x0 hbl;have x1:=aP HB.out x1 hbl;have y0:=aP HB.out y0 hbl2;have y1:=aP HB.out y1 hbl2;by_cases he:l[j]=m[j]
    ·have HT:Hid (l.take (j+1)=m.take (j+1)):=hid (fM HW.out hjl hjm he);rw[<- he]at y0 y1;generalize l[j]=s at x0 x1 y0 y1;obtain⟨f,t⟩:=s;simp only at x0 x1 y0 y1;go_wp2_with fail
     go_quiet (fail)
     go_wp2_with fail
     go_roundw
     case rel=>exact⟨j+1,by first|rfl|go_num,by omega,HT.out,HB.out.trans ((Below.drewN _ _).mono HB.out.size)⟩
     all_goals (show n-((j:Int)+1).toNat<n-((j:Int)).toNat;omega)
    ·have HE:Hid (decide (l=m)=false):=hid (decide_eq_false fun h=>he (by subst h;rfl));generalize l[j]=s at x0 x1 he;generalize m[j]=s2 at y0 y1 he;obtain⟨f,t⟩:=s;obtain⟨f2,t2⟩:=s2;simp only at x0 x1 y0 y1;have HN:Hid ((f==f2&&t==t2)=false):=hid (by
      rw[Bool.eq_false_iff];intro h;simp only[Bool.and_eq_true,beq_iff_eq]at h;exact he (by rw[h.1,h.2]))
     by_cases h1:f=f2
     ·have h2:¬t=t2:=fun e=>he (by rw[h1,e]);have bx:(f==f2)=true:=by simp[h1]
      have by':(t==t2)=false:=by simp[h2]
      clear he h1 h2;go_wp2_with fail
      go_quiet (fail)
      go_wp2_with fail;go_ret;exact⟨by rw[HE.out];rfl,HB.out.trans ((Below.drewN _ _).mono HB.out.size)⟩
     ·have bx:(f==f2)=false:=by simp[h1]
      clear he h1;go_wp2_with fail
      go_quiet (fail)
      go_wp2_with fail;go_ret;exact⟨by rw[HE.out];rfl,HB.out.trans ((Below.drewN _ _).mono HB.out.size)⟩
   ·obtain rfl:j=n:=by omega
    have HE:Hid (decide (l=m)=true):=hid (decide_eq_true (by
     have:=HW.out
     rwa [List.take_of_length_le (by rw[HL.out];exact Nat.le_refl _),List.take_of_length_le (by rw[HL2.out];exact Nat.le_refl _)]at this))
    go_wp2_with fail;go_ret;exact⟨by rw[HE.out];rfl,HB.out⟩
 ·have HE:Hid (decide (l=m)=false):=hid (decide_eq_false fun h=>hnn (by rw[<- HL.out,<- HL2.out,h]));have hni:¬(n:Int)=(n2:Int):=by omega
  go_enter Tryz.func184,Tryz.ntmps184;go_wp2_with fail;go_ret;exact⟨by rw[HE.out];rfl,Below.refl _ _⟩
end Go.Proofs.YtgeihgombjbkbaaGreat
namespace Go.Proofs.Own
open Go Go.RowKit Go.Proofs.YtgeihgombjbkbaaGreat

theorem mV {sz:Nat}(h0:0<sz):∀ {rs:List (List Value)},(∀r ∈ rs,r.length=sz) -> ∀ {j:Nat} {u:Value},rs.flatten[j]? = some u -> ∃(k:Nat) (hk:k<rs.length) (i:Nat),j=k*sz+i/\rs[k][i]? = some u
 | [],_,j,u,h=>by simp at h
 | r::rs,hr,j,u,h=>by
  have hl:r.length=sz:=hr r List.mem_cons_self;rw[List.flatten_cons]at h;by_cases hj:j<sz
  ·rw[List.getElem?_append_left (by omega)]at h;exact⟨0,by simp,j,by omega,h⟩
  ·rw[List.getElem?_append_right (by omega),hl]at h;obtain⟨k,hk,i,e,h2⟩:=mV h0 (fun q hq=>hr q (List.mem_cons_of_mem _ hq)) h;refine⟨k+1,by simpa using hk,i,?_,by simpa using h2⟩;rw[Nat.add_mul];omega
theorem zN {w:World}{sz:Nat}(h0:0<sz){ad:Addr}{n c:Nat}{rs:List (List Value)}(h:aM w sz (.slice (some ad) n c) rs)(hr:∀r ∈ rs,r.length=sz):∀j u,rs.flatten[j]? = some u->w.cell? (ad.add j)=some u:=by
 intro j u hu;obtain⟨k,hk,i,rfl,h2⟩:=mV h0 hr hu;obtain⟨b,o,e,_,h3⟩:=h.at hk;obtain rfl:=Option.some.inj e;rw[Addr.add_lit,<- Nat.add_assoc];exact h3 i u h2
section
variable {P:Program} {t e:TypeId} {sz by':Nat} (I:cM P t e sz by') {w:World} {o:Oper} {a:Act} {Q:Exit->Act->World->Prop} (s x:Operand)
 (ho:o.op = .call { callee:=.builtin .append,args:=#[s,x],argTypes:=#[t,t] }) (base:Nat) (v xv:Value) (rs ns:List (List Value)) (hs:a.eval s=v) (hx:a.eval x=xv)
 (hown:dZ w base e sz v rs) (hsr:aM w sz xv ns) (hr:∀r ∈ ns,r.length=sz) (h1:∀r ∈ ns,∀u ∈ r,u.oneCell'=true) (hlen:rs.length+ns.length<=4294967296) (hbase:base<=w.heap.size)
include I ho hs hx hown hsr hr h1 hlen hbase
end

structure lB (w:World)(e:TypeId)(sz:Nat)(v:Value)(rs:List (List Value)):Prop where
 own:(v = .slice none 0 0/\rs = []) \/ ∃g cap cur,v = .slice (some ⟨g,0,none⟩) rs.length cap/\w.heap[g]? = some (.cells cur e (0,0))/\rs.length<=cap/\cap<=maxLen/\cap*sz<=cur.size/\cur.toList.take (rs.length*sz)=rs.flatten /\ ∀x,Value.int .u8 x ∉ cur.toList
 each:∀r ∈ rs,r.length=sz
theorem lB.nil (w:World)(e:TypeId)(sz:Nat):lB w e sz (.slice none 0 0) []:=⟨.inl ⟨rfl,rfl⟩,nofun⟩
def No8 (l:List Value):Prop:=∀x,Value.int .u8 x ∉ l
theorem No8.app {l m:List Value}(h:No8 l)(g:No8 m):No8 (l++m):=fun x hx=>(List.mem_append.1 hx).elim (h x) (g x)
theorem No8.take {l:List Value}(h:No8 l)(n:Nat):No8 (l.take n):=fun x hx=>h x (List.mem_of_mem_take hx)
theorem No8.drop {l:List Value}(h:No8 l)(n:Nat):No8 (l.drop n):=fun x hx=>h x (List.mem_of_mem_drop hx)
theorem No8.zero {z:Array Value}(h:No8 z.toList)(n:Nat):No8 (Builtin.zeroCells z n).toList:=by
 intro x hx;unfold Builtin.zeroCells at hx;rw[Array.mem_toList_iff,Array.mem_map]at hx;obtain⟨k,hk,e⟩:=hx;rw[Array.mem_range]at hk;have hz:0<z.size:=Nat.pos_of_ne_zero fun e=>by rw[e,Nat.mul_zero]at hk;omega
 have hlt:=Nat.mod_lt k hz;rw[getElem!_pos z (k % z.size) hlt]at e;refine h x ?_;rw[<- e];exact Array.mem_toList_iff.2 (Array.getElem_mem hlt)
theorem lB.made {w:World}{g:Nat}{e:TypeId}{sz:Nat}(hg:w.heap[g]? = some (.cells #[] e (0,0))):lB w e sz (.slice (some ⟨g,0,none⟩) 0 0) [] :=
 ⟨.inr ⟨g,0,#[],rfl,hg,Nat.le_refl _,Nat.zero_le _,by simp,by simp,by simp⟩,nofun⟩
theorem lB.shape {w:World}{e:TypeId}{sz:Nat}{v:Value}{rs:List (List Value)}(h:lB w e sz v rs):∃a c,v = .slice a rs.length c/\rs.length<=c:=by
 rcases h.own with ⟨rfl,rfl⟩|⟨g,cap,cur,rfl,_,hn,_⟩
 ·exact⟨none,0,rfl,Nat.le_refl _⟩
 ·exact⟨_,_,rfl,hn⟩
theorem aIo {w:World}{g j:Nat}{cur:Array Value}{e:TypeId}{u:Value}{fz:Nat × Nat}(hg:w.heap[g]? = some (.cells cur e fz))(hc:cur.toList[j]? = some u):w.cell? ⟨g,j,none⟩=some u:=by
 have h:cur[j]? = some u:=by rw[<- hc];simp
 simp[World.cell?,hg,h]
theorem lB.flat {w:World}{e:TypeId}{sz g n c:Nat}{rs:List (List Value)}(h:lB w e sz (.slice (some ⟨g,0,none⟩) n c) rs):∀j u,rs.flatten[j]? = some u->w.cell? ((⟨g,0,none⟩:Addr).add j)=some u:=by
 intro j u hu;rcases h.own with ⟨e1,_⟩|⟨g',cap,cur,e1,hg,hn,_,hs,ht⟩
 ·cases e1
 ·cases e1;rw[Addr.add_lit,Nat.zero_add];refine aIo hg ?_;rw[<- ht.1]at hu;have hlt:=(List.getElem?_eq_some_iff.1 hu).1;rw[List.length_take]at hlt;rw[List.getElem?_take_of_lt (by omega)]at hu;exact hu
def aAd (P:Program)(e:TypeId):Prop:=∀i z,P.info? e=some i->i.zero=some z->No8 z.cells.toList
theorem nH {P:Program}{t e:TypeId}{sz by':Nat}(I:cM P t e sz by')(w:World)(ty:TypeId)(v x:Value)(rs ns:List (List Value))
  (hown:lB w e sz v rs) (hs:aM w sz x ns) (hr:∀r ∈ ns,r.length=sz) (h1:∀r ∈ ns,∀u ∈ r,u.oneCell'=true) (h8:No8 ns.flatten) (hz8:aAd P e) (hlen:rs.length+ns.length<=4294967296) :
  ∃v' w',(Builtin.append_ #[t,t] ty #[v,x]).run P w = .ok v' w'/\lB w' e sz v' (rs++ns)/\w.grownBy w' v.ownBlock/\(v'.ownBlock=v.ownBlock\/v'.ownBlock=some w.heap.size):=by
 obtain⟨i,z,hi,hz,hsz,hb,hzs⟩:=I.info;have hu:=I.under;have hsr:=hs;have hdst:=hown;have hbytes:(rs.length+ns.length)*i.bytes<=140737488355328:=by
  have:=Nat.mul_le_mul (show rs.length+ns.length<=4294967296 by omega) I.few;rw[hb];omega
 have heach:∀r ∈ rs++ns,r.length=sz:=fun q hq=>(List.mem_append.1 hq).elim (hown.each q) (hr q);obtain⟨a,c,rfl,hc,hcell⟩:=hs;cases a with
 | none =>
  have hns:ns = []:=by
   rcases ns with _|⟨n,ns⟩
   ·rfl
   ·obtain⟨b,o,h,_⟩:=hcell 0 (by simp);cases h
  subst hns;refine⟨v,w,?_,by simpa using hown,World.grownBy.refl _ _,.inl rfl⟩;rcases hown.own with ⟨rfl,_⟩|⟨g,cap,cur,rfl,_,hnc,_⟩
  ·simp[Builtin.append_,run_underlying hu,sizeOf,typeInfo,hi,Builtin.lenOf,Builtin.firstCells]
  ·simp[Builtin.append_,run_underlying hu,sizeOf,typeInfo,hi,Builtin.lenOf,Builtin.firstCells,hnc,storeCells]
 | some ad =>
  have hnl:ns.flatten.length=ns.length*sz:=eH hr;have hnc:=zN I.pos hsr hr;have hn1:∀u ∈ ns.flatten,u.oneCell'=true:=fun u hu=>by
   obtain⟨r,h2,h3⟩:=List.mem_flatten.1 hu;exact h1 r h2 u h3
  rcases hown.own with ⟨rfl,rfl⟩|⟨g,cap,cur,rfl,hg,hn,hcm,hcs,ht⟩
  ·by_cases h0:ns = []
   ·subst h0;refine⟨.slice none 0 0,w,?_,lB.nil _ _ _,World.grownBy.refl _ _,.inl rfl⟩;simp[Builtin.append_,run_underlying hu,sizeOf,typeInfo,hi,Builtin.lenOf,Builtin.firstCells,loadCells,loadCellsFrom]
   ·have hp:=List.length_pos_iff.2 h0;have h00:([]:List (List Value)).length=0:=rfl;rw[h00,Nat.zero_add]at hbytes hlen;have hrun:=run_append_nil (P:=P) w t ty e i z hu hi hz ad ns.length c ns.flatten (by rw[hnl,hsz]) hnc hp (by omega) (by omega);have hge:=grownCap_ge w ns.length 0 e;have hcm2:grownCap w ns.length 0 e<=maxLen:=grownCap_le_maxLen w ns.length 0 e (by unfold maxLen;omega);refine⟨_,_,hrun,⟨.inr ⟨w.heap.size,_,_,rfl,heap_alloc_new w.drew _,hge,hcm2,?_,?_,?_⟩,heach⟩,⟨rfl,rfl,rfl,by simp,fun k hk _=>Go.heap_alloc_old w.drew _ hk⟩,.inr rfl⟩
    ·simp only[Array.size_append,List.size_toArray,size_zeroCells,hzs,hnl,<- Nat.add_mul];refine Nat.mul_le_mul_right sz ?_;omega
    ·simp only[Array.toList_append,List.nil_append];rw[<- hnl];exact List.take_left
    ·rw[Array.toList_append];exact h8.app (No8.zero (hz8 i z hi hz) _)
  ·by_cases hroom:rs.length+ns.length<=cap
   ·have hm:=Nat.mul_le_mul_right sz hroom;rw[Nat.add_mul]at hm;have hfit:rs.length*i.size+ns.flatten.length<=cur.size:=by rw[hnl,hsz];omega
    have hrun:=run_append_room (P:=P) w t ty e i hu hi g rs.length cap cur hg ad ns.length c ns.flatten (by rw[hnl,hsz]) hnc hn1 hroom hfit;refine⟨_,_,hrun,⟨.inr ⟨g,cap,_,by rw[List.length_append],setRow_heap w g cur _ e _ hg,by rw[List.length_append];exact hroom,hcm,?_,?_,?_⟩,heach⟩,⟨rfl,rfl,rfl,by simp,fun k _ hk=>setRow_other w g k _ (fun e=>hk (by simp[Value.ownBlock,e]))⟩,.inl rfl⟩
    ·simp only[List.size_toArray,List.length_append,List.length_take,List.length_drop,Array.length_toList];rw[hnl,hsz]at *
     omega
    ·rw[hsz,ht.1,List.flatten_append,List.length_append,show (rs.length+ns.length)*sz=(rs.flatten++ns.flatten).length by rw[List.length_append,eH hown.each,hnl,Nat.add_mul]];exact List.take_left
    ·have h2:No8 cur.toList:=ht.2;exact((h2.take _).app h8).app (h2.drop _)
   ·have hrun:=run_append_grow (P:=P) w t ty e i z hu hi hz ⟨g,0,none⟩ rs.length cap rs.flatten (by rw[eH hown.each,hsz]) hdst.flat ad ns.length c ns.flatten (by rw[hnl,hsz]) hnc (by omega) (by omega) (growslice_fits (by omega) hbytes);have hge:=grownCap_ge w (rs.length+ns.length) cap e;have hcm2:grownCap w (rs.length+ns.length) cap e<=maxLen:=grownCap_le_maxLen w (rs.length+ns.length) cap e (by unfold maxLen;omega);refine⟨_,_,hrun,⟨.inr ⟨w.heap.size,_,_,by rw[List.length_append],heap_alloc_new w.drew _,by rw[List.length_append];exact hge,hcm2,?_,?_,?_⟩,heach⟩,⟨rfl,rfl,rfl,by simp,fun k hk _=>Go.heap_alloc_old w.drew _ hk⟩,.inr rfl⟩
    ·simp only[Array.size_append,List.size_toArray,size_zeroCells,hzs,eH hown.each,hnl,<- Nat.add_mul];refine Nat.mul_le_mul_right sz ?_;omega
    ·simp only[Array.toList_append,List.append_assoc];rw[<- List.append_assoc,List.flatten_append,List.length_append,show (rs.length+ns.length)*sz=(rs.flatten++ns.flatten).length by rw[List.length_append,eH hown.each,hnl,Nat.add_mul]];exact List.take_left
    ·simp only[Array.toList_append];refine No8.app ?_ (No8.zero (hz8 i z hi hz) _);have h2:No8 cur.toList:=ht.2;have h3:=h2.take (rs.length*sz);rw[ht.1]at h3;exact h3.app h8
section
variable {P:Program} {t e:TypeId} {sz by':Nat} (I:cM P t e sz by') {w:World} {o:Oper} {a:Act} {Q:Exit->Act->World->Prop} (s x:Operand)
 (ho:o.op = .call { callee:=.builtin .append,args:=#[s,x],argTypes:=#[t,t] }) (v xv:Value) (rs ns:List (List Value)) (hs:a.eval s=v) (hx:a.eval x=xv)
 (hown:lB w e sz v rs) (hsr:aM w sz xv ns) (hr:∀r ∈ ns,r.length=sz) (h1:∀r ∈ ns,∀u ∈ r,u.oneCell'=true) (h8:No8 ns.flatten) (hz8:aAd P e) (hlen:rs.length+ns.length<=4294967296)
include I ho hs hx hown hsr hr h1 h8 hz8 hlen
theorem pD {K:Act->World->Prop}
  (h:∀v' w',lB w' e sz v' (rs++ns)->w.grownBy w' v.ownBlock->(v'.ownBlock=v.ownBlock\/v'.ownBlock=some w.heap.size)->K (a.put o.dst v') w'):o.wp P a w K Q:=by
 obtain⟨v',w',hrun,k1,k2,k3⟩:=nH I w o.type v xv rs ns hown hsr hr h1 h8 hz8 hlen;unfold Oper.wp execOp;simp only[ho,resolve,invoke,builtin,Sem.run_bind,Sem.run_pure,Result.andThen_ok,List.map_toArray,List.map_cons,List.map_nil,hs,hx,hrun];exact h v' w' k1 k2 k3
theorem lN {ops:Array Oper}{rest:List Oper}(hgd:o.guard=none)
  (h:∀v' w',lB w' e sz v' (rs++ns)->w.grownBy w' v.ownBlock->(v'.ownBlock=v.ownBlock\/v'.ownBlock=some w.heap.size)->wpList P ops Q rest (a.put o.dst v') w') :
  wpList P ops Q (o::rest) a w :=
 wpList_plain hgd fun _ hK=>pD I s x ho v xv rs ns hs hx hown hsr hr h1 h8 hz8 hlen fun v' w' k1 k2 k3=>hK _ _ (h v' w' k1 k2 k3)
end
end Go.Proofs.Own
