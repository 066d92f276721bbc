/- For screads_law_holds. -/
import Derived.Laws.BytesArg
import Derived.Lib.ConvBytes
import Derived.Test.YtgeihgombjbkbaaGreatSrb10
set_option maxHeartbeats 16000000
set_option maxRecDepth 100000
namespace Go.Proofs.YtgeihgombjbkbaaGreat
open Go.RowKit Go.Maps Go.Proofs.Own

def eD (l:List Nat):ByteArray:=⟨(l.map UInt8.ofNat).toArray⟩
def gU (s:ByteArray):List Nat:=s.data.toList.map UInt8.toNat
theorem iC {l:List Nat}(h:∀c ∈ l,c<256):gU (eD l)=l:=by
 have h1:gU (eD l)=(l.map UInt8.ofNat).map UInt8.toNat:=rfl;rw[h1,List.map_map]
 conv=>rhs;rw[<- List.map_id l]
 exact List.map_congr_left fun c hc=>by
  have:=h c hc;show (UInt8.ofNat c).toNat=c;rw[UInt8.toNat_ofNat'];exact Nat.mod_eq_of_lt this
theorem oN {l m:List Nat}(hl:∀c ∈ l,c<256)(hm:∀c ∈ m,c<256)(h:eD l=eD m):l=m:=by
 rw[<- iC hl,<- iC hm,h]
theorem wW (s:ByteArray):∀c ∈ gU s,c<256:=by
 intro c hc;simp only[gU,List.mem_map]at hc;obtain⟨x,_,rfl⟩:=hc;exact UInt8.toNat_lt x
theorem dE (s:ByteArray):(gU s).length=s.size:=by rw[gU,List.length_map];rfl
theorem lR (l:List Nat):(eD l).size=l.length:=by show (l.map UInt8.ofNat).toArray.size=_;rw[List.size_toArray,List.length_map]
theorem oO (l:List Nat):strOfNums (ints l)=eD l:=by
 unfold strOfNums ints eD;rw[List.map_map]
 congr 2

theorem Bytes.str {P:Program}{src dst e:TypeId}(hs:P.underlying src=some (.slice e))(he:P.underlying e=some (.int .u8))(hd:P.underlying dst=some .string){w:World}{v:Value}{l:List Nat}(h:Bytes w v l) :
  (convert src dst v).run P w = .ok (.string (eD l)) w:=by
 obtain⟨a,c,rfl,_⟩:=h.shape;cases a with
 | none =>
  obtain⟨_,_,hc⟩:=h.cells;have:l = []:=by
   cases l with
   | nil=>rfl
   | cons x l=>obtain⟨b,o,e,_⟩:=hc 0 (by simp);cases e
  subst this;rw[run_convert_bytes_nil w src e hs he _ _ dst hd];rfl
 | some ad =>
  obtain⟨_,_,hc⟩:=h.cells;by_cases h0:l = []
  ·subst h0;rw[run_convert_bytes_string w src dst e _ _ _ hs he hd];have hl:=run_loadCells_list (P:=P) w ad [] (by simp);rw[show ([]:List Nat).length=([]:List Value).length from rfl];rw[run_bytesToString w ad _ c [] (by simpa using hl)];rfl
  ·obtain⟨b,o,e0,_⟩:=hc 0 (List.length_pos_iff.2 h0);cases e0;rw[<- oO];refine run_convert_bytes_arg w src e hs he b o _ c (ints l) (by rw[aE]) (fun i hi=>?_) dst hd;obtain⟨b',o',e1,h1⟩:=hc i hi;cases e1;rw[h1];simp[ints,List.getD_eq_getElem?_getD,hi]
theorem kF {P:Program}(w:World)(src dst e:TypeId)(s:ByteArray)(hs:P.underlying src=some .string)(hd:P.underlying dst=some (.slice e))(he:P.underlying e=some (.int .u8))(hsz:s.size<=2097152) :
  ∃v w',(convert src dst (.string s)).run P w = .ok v w'/\Bytes w' v (gU s)/\Below w.heap.size w w'/\v.ownBlock=some w.heap.size:=by
 have hge:=grownCap_ge w s.size 0 e;refine⟨_,_,run_bytes_of_string w src dst e s hs hd he,?_,((Below.refl _ _).drew).alloc (Nat.le_refl _) _,rfl⟩;generalize grownCap w s.size 0 e=c at hge;refine⟨⟨_,_,by rw[dE],by rw[dE];exact hge⟩,⟨_,_,by rw[aE,dE],fun j hj=>⟨w.heap.size,0,rfl,?_⟩⟩,wW s,by rw[dE];exact hsz⟩;have hj':j<s.data.size:=by rw[aE,dE]at hj;exact hj
 have hb:(w.drew.alloc (.cells (bytesRow s c) e ((bytesRow s c).size,(bytesRow s c).size+1))).heap[w.heap.size]? = some (.cells (bytesRow s c) e ((bytesRow s c).size,(bytesRow s c).size+1)):=heap_alloc_new w.drew _;rw[ints_at];have h1:(bytesRow s c)[j]? = some (.int .u8 (s.data[j].toNat:Nat)):=by
  unfold bytesRow;rw[Array.getElem?_append_left (by simpa using hj')];rw[Array.getElem?_map,Array.getElem?_eq_getElem hj'];rfl
 have h2:(gU s)[j]'(by rw[dE];exact hj')=s.data[j].toNat:=by simp[gU]
 rw[h2,Nat.zero_add];simp only[World.cell?];rw[hb];exact h1

theorem vA {a b:ByteArray}(h:a≠b):(a.toList==b.toList)=false:=by
 refine beq_eq_false_iff_ne.2 fun e=>h ?_;rw[ByteArray.toList_eq,ByteArray.toList_eq]at e;cases a;cases b
 congr
 exact Array.toList_inj.1 e
theorem lT {a b:ByteArray}(h:a=b):(a.toList==b.toList)=true:=by
 subst h;exact beq_iff_eq.2 rfl

section
variable {P:Program} {ops:Array Oper} {rest:List Oper} {o:Oper} {a:Act} {Q:Exit->Act->World->Prop} {w:World}
theorem mL (hg:o.guard=none)(src dst e:TypeId)(x:Operand)(hop:o.op=Op.convert src dst x)(hs:P.underlying src=some .string)(hd:P.underlying dst=some (.slice e))(he:P.underlying e=some (.int .u8))
  (s:ByteArray) (hx:a.eval x = .string s) (hsz:s.size<=2097152)
  (hK:∀v w',Bytes w' v (gU s)->Below w.heap.size w w'->v.ownBlock=some w.heap.size->wpList P ops Q rest (a.put o.dst v) w'):wpList P ops Q (o::rest) a w:=by
 refine wpList_plain hg fun K' hK'=>?_;obtain⟨v,w',hrun,h1,h2,h3⟩:=kF (P:=P) w src dst e s hs hd he hsz;unfold Oper.wp;simp[execOp,hop,hx,hrun,Result.andThen];exact hK' _ _ (hK v w' h1 h2 h3)
theorem fN (hg:o.guard=none)(src dst e:TypeId)(x:Operand)(hop:o.op=Op.convert src dst x)(hs:P.underlying src=some (.slice e))(he:P.underlying e=some (.int .u8))(hd:P.underlying dst=some .string)
  (v:Value) (l:List Nat) (hx:a.eval x=v) (hB:Bytes w v l)
  (hK:wpList P ops Q rest (a.put o.dst (.string (eD l))) w):wpList P ops Q (o::rest) a w:=by
 refine wpList_plain hg fun K' hK'=>?_;have hrun:=hB.str hs he hd;unfold Oper.wp;simp[execOp,hop,hx,hrun,Result.andThen];exact hK' _ _ hK
end

structure fZ (S:World->Prop):Prop where
 below:∀ {w w':World},S w->Below w.heap.size w w'->S w'
theorem fZ.alloc {S:World->Prop}(h:fZ S){w:World}(hs:S w)(o:Obj):S (w.alloc o):=h.below hs ((Below.refl _ _).alloc (Nat.le_refl _) o)
theorem fZ.drew {S:World->Prop}(h:fZ S){w:World}(hs:S w):S w.drew:=h.below hs ((Below.refl _ _).drew)
theorem fZ.cell (p:Addr)(v:Value):fZ fun w=>w.cell? p=some v:=⟨fun hs hb=>Below.at hb hs (World.block_lt_of_cell? _ _ hs)⟩
theorem fZ.from(W:World):fZ fun w=>Below W.heap.size W w:=⟨fun hs hb=>hs.trans (hb.mono hs.size)⟩

def beN (l:List Nat):Nat:=l.foldl (fun n c=>n*256+c) 0
theorem aJM (l:List Nat):∀n k,n<256 ^ k->(∀c ∈ l,c<256)->l.foldl (fun n c=>n*256+c) n<256 ^ (k+l.length):=by
 induction l with
 | nil=>intro n k h _;simpa using h
 | cons c l ih =>
  intro n k h hl;have hc:=hl c (by simp);have:=ih (n*256+c) (k+1) (by rw[Nat.pow_succ];have:=Nat.mul_le_mul_right 256 (show n+1<=256 ^ k from h);omega) fun d hd=>hl d (by simp[hd])
  simpa [Nat.add_assoc,Nat.add_comm 1] using this
theorem aJN (l:List Nat)(hl:∀c ∈ l,c<256):beN l<256 ^ l.length:=by
 have:=aJM l 0 0 (by decide) hl
 simpa [beN] using this
theorem mZ (l:List Nat)(c:Nat):beN (l ++ [c])=beN l*256+c:=by simp[beN,List.foldl_append]
theorem fP (l:List Nat)(k:Nat)(h:k<l.length):beN (l.take (k+1))=beN (l.take k)*256+l[k]:=by
 rw[List.take_succ_eq_append_getElem h,mZ]

theorem bIh (a b:Nat)(ha:a<18446744073709551616)(hb:b<18446744073709551616):bits .or .u64 (a:Int) (b:Int)=((a ||| b:Nat):Int):=by
 have hx:a ||| b<2 ^ 64:=Nat.or_lt_two_pow (by omega) (by omega)
 have h64:∀n:Nat,n<18446744073709551616->(BitVec.ofInt 64 (n:Int)).toNat=n:=fun n hn=>by
  rw[BitVec.ofInt_natCast,BitVec.toNat_ofNat];exact Nat.mod_eq_of_lt (by omega)
 have hw:IntKind.u64.wrap ((a ||| b:Nat):Int)=((a ||| b:Nat):Int):=by
  have:∀n:Int,IntKind.u64.wrap n=n % 18446744073709551616:=fun n=>by simp[IntKind.wrap,IntKind.bits,IntKind.signed]
  rw[this];omega
 show IntKind.u64.wrap ((BitVec.ofInt 64 (a:Int) ||| BitVec.ofInt 64 (b:Int)).toNat:Int)=_;rw[BitVec.toNat_or,h64 a ha,h64 b hb,hw]
theorem aJk (a c:Nat)(hc:c<256):a*256 ||| c=a*256+c:=by
 have:=Nat.two_pow_add_eq_or_of_lt (i:=8) (b:=c) (by omega) a;rw[show 2 ^ 8*a=a*256 by omega]at this;exact this.symm

theorem wrap_u64 (n:Int):IntKind.u64.wrap n=n % 18446744073709551616:=by simp[IntKind.wrap,IntKind.bits,IntKind.signed]
theorem rI (n z:Nat)(hz:z<256)(hn:n*256+z<18446744073709551616):bits BinOp.or .u64 (IntKind.u64.wrap ((n:Int)*256)) (z:Int)=((n*256+z:Nat):Int):=by
 have h1:n*256<18446744073709551616:=Nat.lt_of_le_of_lt (Nat.le_add_right _ _) hn;have h2:z<18446744073709551616:=Nat.lt_of_le_of_lt (Nat.le_add_left _ _) hn;have h3:=bIh (n*256) z h1 h2;have hw:IntKind.u64.wrap ((n:Int)*256)=((n*256:Nat):Int):=by
  rw[wrap_u64];exact Int.emod_eq_of_lt (Int.natCast_nonneg (n*256)) (Int.ofNat_lt.2 h1)
 clear h1 h2 hn;have h4:=aJk n z hz;rw[h4]at h3;rw[hw];exact h3
theorem lI {l:List Nat}(hl:∀c ∈ l,c<256)(h8:l.length<=8):beN l<18446744073709551616 :=
 Nat.lt_of_lt_of_le (aJN l hl) (Nat.le_trans (Nat.pow_le_pow_right (by decide) h8) (Nat.le_of_ble_eq_true rfl))


def cK (l:List Nat):Prop:=8<l.getD 0 0\/l.length<=l.getD 0 0\/(0<l.getD 0 0/\l.getD 1 0=0)
instance (l:List Nat):Decidable (cK l):=inferInstanceAs (Decidable (_\/_))
def eR (l:List Nat):Nat:=beN ((l.drop 1).take (l.getD 0 0))
def cH (most:Nat)(l:List Nat):Prop:=¬cK l/\eR l<=most
instance (most:Nat) (l:List Nat):Decidable (cH most l):=inferInstanceAs (Decidable (_/\_))
def aB (most:Nat)(l:List Nat):Nat:=if cH most l then eR l else 0
def dX (most:Nat)(l:List Nat):List Nat:=if cH most l then l.drop (l.getD 0 0+1) else []
def jJ (most:Nat)(l:List Nat):Bool:=if cH most l then false else true
theorem aD (most:Nat)(l:List Nat):aB most l<=most:=by
 unfold aB;split
 ·rename_i h;exact h.2
 ·exact Nat.zero_le _
theorem vQ (most:Nat)(l:List Nat):(dX most l).length<=l.length:=by
 unfold dX;split
 ·rw[List.length_drop];omega
 ·simp

def eE (most:Nat)(l:List Nat):Prop:=aB most l<=(dX most l).length
instance (most:Nat) (l:List Nat):Decidable (eE most l):=inferInstanceAs (Decidable (_<=_))
def dR (most:Nat)(l:List Nat):List Nat:=if eE most l then (dX most l).take (aB most l) else []
def iO (most:Nat)(l:List Nat):List Nat:=if eE most l then (dX most l).drop (aB most l) else []
def jE (most:Nat)(l:List Nat):Bool:=jJ most l || if eE most l then false else true
def gR (l:List Nat)(bad:Bool):Nat:=if bad=true\/0<l.length then 20 else 0

structure aF (w:World)(b rb:Nat)(l:List Nat)(bad:Bool):Prop where
 ex:∃v,w.cell? ⟨b,0,none⟩=some v/\Bytes w v l/\(l = []\/v.ownBlock=some rb)
 ne:rb≠b
 bad:w.cell? ⟨b,1,none⟩=some (.bool bad)
 free0:w.frozen? ⟨b,0,none⟩=false
 free1:w.frozen? ⟨b,1,none⟩=false
variable {rb:Nat}
theorem aF.lt {w:World}{b:Nat}{l:List Nat}{bad:Bool}(h:aF w b rb l bad):b<w.heap.size:=World.block_lt_of_cell? _ _ h.bad
theorem aF.below {w w':World}{b:Nat}{l:List Nat}{bad:Bool}(h:aF w b rb l bad)(hb:Below w.heap.size w w'):aF w' b rb l bad:=by
 obtain⟨v,h1,h2,h3⟩:=h.ex;have hl:=h.lt;exact⟨⟨v,Below.at hb h1 hl,h2.below hb,h3⟩,h.ne,Below.at hb h.bad hl,by rw[hb.frozen (p:=⟨b,0,none⟩) hl];exact h.free0,by rw[hb.frozen (p:=⟨b,1,none⟩) hl];exact h.free1⟩
theorem Bytes.nN {w w':World}{v:Value}{l:List Nat}{S:Nat->Prop}(h:Bytes w v l)(hk:Kept w w' S)(hv:l = []\/v.ownBlock=some rb)(hs:¬S rb):Bytes w' v l:=by
 rcases hv with rfl|hv
 ·exact⟨h.shape,by obtain⟨a,c,rfl,_⟩:=h.shape;exact Reads.nil _ _ _ _,h.lt,h.small⟩
 ·exact h.kept hk fun k hk'=>by rw[hv]at hk';cases hk';exact hs
theorem aF.kept {w w':World}{b:Nat}{l:List Nat}{bad:Bool}{S:Nat->Prop}(h:aF w b rb l bad)(hk:Kept w w' S)(hs:¬S b)(hr:¬S rb):aF w' b rb l bad:=by
 obtain⟨v,h1,h2,h3⟩:=h.ex;have hl:=h.lt;exact⟨⟨v,hk.cell h1 hs,h2.nN hk h3 hr,h3⟩,h.ne,hk.cell h.bad hs,by rw[hk.frozen (a:=⟨b,0,none⟩) hl hs];exact h.free0,by rw[hk.frozen (a:=⟨b,1,none⟩) hl hs];exact h.free1⟩
theorem aF.set {w:World}{b:Nat}{l l':List Nat}{bad:Bool}(h:aF w b rb l bad){v':Value}(hB:Bytes w v' l')(hv:l' = []\/v'.ownBlock=some rb):aF (w.setCell ⟨b,0,none⟩ v') b rb l' bad:=by
 obtain⟨v,h1,_,_⟩:=h.ex;have hk:=Kept.setCell w ⟨b,0,none⟩ v';refine⟨⟨v',css h1,hB.nN hk hv h.ne,hv⟩,h.ne,?_,by rw[fsc];exact h.free0,by rw[fsc];exact h.free1⟩;rw[cso (by simp)];exact h.bad
theorem aF.aH1 {w:World}{b:Nat}{l:List Nat}{bad:Bool}(h:aF w b rb l bad)(bad':Bool):aF (w.setCell ⟨b,1,none⟩ (.bool bad')) b rb l bad':=by
 obtain⟨v,h1,h2,h3⟩:=h.ex;have hk:=Kept.setCell w ⟨b,1,none⟩ (.bool bad');refine⟨⟨v,?_,h2.nN hk h3 h.ne,h3⟩,h.ne,css h.bad,by rw[fsc];exact h.free0,by rw[fsc];exact h.free1⟩;rw[cso (by simp)];exact h1
end Go.Proofs.YtgeihgombjbkbaaGreat
namespace Go.Proofs.YtgeihgombjbkbaaGreat
open Go.Lib (hid)
open Go.RowKit Go.Maps Go.Proofs.Own
variable {rb:Nat}

theorem cY (b:Nat)(l:List Nat)(bad:Bool)(w:World)(h:aF w b rb l bad) :
  Calls Tryz.prog 75 #[.pointer (some ⟨b,0,none⟩)] w fun e w'=>e = .returned (.tuple #[])/\aF w' b rb [] true/\Kept w w' (fun k=>k=b):=by
 have H:=hid h;obtain⟨v,c0,_,_⟩:=h.ex;have c1:=h.bad;have f0:=h.free0;have f1:=h.free1;clear h;go_enter Tryz.func75,Tryz.ntmps75;go_wp2_with fail
 go_end0
 refine⟨rfl,(H.out.set (Bytes.nil _) (.inl rfl)).aH1 true,(Kept.setCell w ⟨b,0,none⟩ _).trans (Kept.setCell _ ⟨b,1,none⟩ _)⟩

theorem cE (b:Nat)(l:List Nat)(bad:Bool)(w:World)(h:aF w b rb l bad) :
  Calls Tryz.prog 118 #[.pointer (some ⟨b,0,none⟩)] w fun e w'=>e = .returned (.int .i64 l.length)/\w=w':=by
 obtain⟨v,c0,hB,_⟩:=h.ex;obtain⟨a,c,rfl,_⟩:=hB.shape;clear h hB;go_enter Tryz.func118,Tryz.ntmps118;go_wp2_with fail;go_ret;exact⟨rfl,rfl⟩

def hD (b rb most:Nat)(l:List Nat)(bad:Bool)(w:World):Ending->World->Prop:=fun e w'=>e = .returned (.tuple #[.int .u64 (aB most l),.bool false])/\aF w' b rb (dX most l) (bad || jJ most l)/\Kept w w' (fun k=>k=b)
theorem jK {b most:Nat}{l:List Nat}{bad:Bool}{w:World}(h:¬cH most l):hD b rb most l bad w=fun e w'=>e = .returned (.tuple #[.int .u64 0,.bool false])/\aF w' b rb [] true/\Kept w w' (fun k=>k=b):=by
 unfold hD aB dX jJ;simp[h]
theorem qV {b most:Nat}{l:List Nat}{bad:Bool}{w:World}(h:cH most l):hD b rb most l bad w=fun e w'=>e = .returned (.tuple #[.int .u64 (eR l),.bool false])/\aF w' b rb (l.drop (l.getD 0 0+1)) bad/\Kept w w' (fun k=>k=b):=by
 unfold hD aB dX jJ;simp[h]

theorem aHF (b most:Nat)(bad:Bool)(w:World)(h:aF w b rb [] bad) :
  Calls Tryz.prog 72 #[.pointer (some ⟨b,0,none⟩),.int .u64 most,.bool false] w (hD b rb most [] bad w):=by
 rw[jK (by simp[cH,cK])];have H:=hid h;clear h;go_enter Tryz.func72,Tryz.ntmps72;go_wp2_with fail;refine(cE b [] bad _ H.out).mono ?_;rintro e w1 ⟨rfl,rfl⟩;go_wp2_with fail;refine(cY b [] bad _ H.out).mono ?_;rintro e w1 ⟨rfl,h1,h2⟩;have H1:=hid h1;have H2:=hid h2;clear h1 h2;go_wp2_with fail
 go_ret2
 exact⟨rfl,H1.out,H2.out⟩

theorem aHG (b most:Nat)(l:List Nat)(bad:Bool)(w:World)(h:aF w b rb l bad)(hne:0<l.length)(hbad:cK l) :
  Calls Tryz.prog 72 #[.pointer (some ⟨b,0,none⟩),.int .u64 most,.bool false] w (hD b rb most l bad w):=by
 rw[jK fun h=>h.1 hbad];have H:=hid h;obtain⟨v,c0,hB,_⟩:=h.ex;obtain⟨b1,o1,c,rfl,hle,hbs,hcell⟩:=hB.cM hne;have d0:w.cell? ⟨b1,o1,none⟩=some (.int .u8 (l.getD 0 0:Nat)):=hcell 0 hne;have d1:1<l.length->w.cell? ⟨b1,o1+1,none⟩=some (.int .u8 (l.getD 1 0:Nat)):=fun h=>hcell 1 h;have x0:=hB.aU 0;have x1:=hB.aU 1;have hlb:(l.length:Int)<=2097152:=by have:=hB.small;omega
 have hl0:((l.length:Int)==0)=false:=beq_eq_false_iff_ne.2 (by omega);have i0:(0:Int)<(l.length:Int):=by omega
 unfold cK at hbad;generalize l.getD 0 0=x at d0 x0 hbad;generalize l.getD 1 0=y at d1 x1 hbad;have key:((8:Int)<(x:Int))\/((x:Int)<=8/\(l.length:Int)<=(x:Int))\/((x:Int)<=8/\(x:Int)<(l.length:Int)/\(0:Int)<(x:Int)/\((y:Int)==0)=true):=by
  by_cases h8:8<x
  ·exact .inl (by omega)
  ·by_cases hll:l.length<=x
   ·exact .inr (.inl ⟨by omega,by omega⟩)
   ·exact .inr (.inr ⟨by omega,by omega,by omega,by simp;omega⟩)
 clear h hB hcell hle hbad hne;rcases key with k1|⟨k1,k2⟩|⟨k1,k2,k3,k4⟩
 ·clear d1;go_enter Tryz.func72,Tryz.ntmps72;go_wp2_with fail;refine(cE b l bad _ H.out).mono ?_;rintro e w1 ⟨rfl,rfl⟩;go_wp2_with fail;refine(cY b l bad _ H.out).mono ?_;rintro e w1 ⟨rfl,h1,h2⟩;have H1:=hid h1;have H2:=hid h2;clear h1 h2;go_wp2_with fail
  go_ret2
  exact⟨rfl,H1.out,H2.out⟩
 ·clear d1;go_enter Tryz.func72,Tryz.ntmps72;go_wp2_with fail;refine(cE b l bad _ H.out).mono ?_;rintro e w1 ⟨rfl,rfl⟩;go_wp2_with fail;refine(cY b l bad _ H.out).mono ?_;rintro e w1 ⟨rfl,h1,h2⟩;have H1:=hid h1;have H2:=hid h2;clear h1 h2;go_wp2_with fail
  go_ret2
  exact⟨rfl,H1.out,H2.out⟩
 ·have d1':=d1 (by omega);have i1:(1:Int)<(l.length:Int):=by omega
  clear d1;go_enter Tryz.func72,Tryz.ntmps72;go_wp2_with fail;refine(cE b l bad _ H.out).mono ?_;rintro e w1 ⟨rfl,rfl⟩;go_wp2_with fail;refine(cY b l bad _ H.out).mono ?_;rintro e w1 ⟨rfl,h1,h2⟩;have H1:=hid h1;have H2:=hid h2;clear h1 h2;go_wp2_with fail
  go_ret2
  exact⟨rfl,H1.out,H2.out⟩

theorem aHH (b most:Nat)(l:List Nat)(bad:Bool)(w:World)(h:aF w b rb l bad)(hb:¬cK l)(hmost:most<18446744073709551616) :
  Calls Tryz.prog 72 #[.pointer (some ⟨b,0,none⟩),.int .u64 most,.bool false] w (hD b rb most l bad w):=by
 have H:=hid h;obtain⟨v,c0,hB,hvb⟩:=h.ex;have f0:=h.free0;have hx8:l.getD 0 0<=8/\l.getD 0 0<l.length:=by unfold cK at hb;omega
 have hy:0<l.getD 0 0->l.getD 1 0≠0:=by unfold cK at hb;omega
 obtain⟨v1,hB1,hcut1⟩:=hB.aIt Tryz.u8s 1 (l.getD 0 0+1) (by omega) (by omega);obtain⟨v2,hB2,hv2,hcut2⟩:=hB.pI Tryz.u8s (l.getD 0 0+1) (by omega);have e1:(l.take (l.getD 0 0+1)).drop 1=(l.drop 1).take (l.getD 0 0):=by rw[List.drop_take];congr 1
 rw[e1]at hB1;have HX:Hid (eR l=beN ((l.drop 1).take (l.getD 0 0))):=hid rfl;obtain⟨b1,o1,c,rfl,hle,hbs,hcell⟩:=hB.cM (by omega);have d0:w.cell? ⟨b1,o1,none⟩=some (.int .u8 (l.getD 0 0:Nat)):=hcell 0 (by omega);have d1:0<l.getD 0 0->w.cell? ⟨b1,o1+1,none⟩=some (.int .u8 (l.getD 1 0:Nat)):=fun h=>hcell 1 (by omega);have x0:=hB.aU 0;have x1:=hB.aU 1;have hlb:(l.length:Int)<=2097152:=by have:=hB.small;omega
 have hl0:((l.length:Int)==0)=false:=beq_eq_false_iff_ne.2 (by omega);have i0:(0:Int)<(l.length:Int):=by omega
 have hlen1:((l.drop 1).take (l.getD 0 0)).length=l.getD 0 0:=by rw[List.length_take,List.length_drop];omega
 have HG:Hid (cH most l ↔ eR l<=most):=hid ⟨fun h=>h.2,fun h=>⟨hb,h⟩⟩;have hv2':l.drop (l.getD 0 0+1) = []\/v2.ownBlock=some rb:=by rw[hv2];exact hvb.imp (fun h=>by rw[h];simp) id
 have HB2:=hid hB2;clear h hB hcell hle hb e1 hvb hv2 hB2;generalize hrest:l.drop (l.getD 0 0+1)=rest at HB2 hv2';generalize hbl:(l.drop 1).take (l.getD 0 0)=bl at hB1 HX hlen1;have HREST:=hid hrest;clear hbl hrest;generalize hxx:l.getD 0 0=x at *
 have HXX:=hid hxx;clear hxx;generalize l.getD 1 0=y at *
 have key:(x:Int)<=0\/((0:Int)<(x:Int)/\((y:Int)==0)=false/\w.cell? ⟨b1,o1+1,none⟩=some (.int .u8 (y:Nat))/\(1:Int)<(l.length:Int)):=by
  by_cases h0:x=0
  ·exact .inl (by omega)
  ·exact .inr ⟨by omega,by have:=hy (by omega);simp;omega,d1 (by omega),by omega⟩
 have k8:(x:Int)<=8:=by omega
 have kl:(x:Int)<(l.length:Int):=by omega
 obtain⟨a1,c1,rfl,_⟩:=hB1.shape;have hcut1':∀w',(Instr.slice 22 (.slice (some ⟨b1,o1,none⟩) l.length c) (some (.int .i64 1)) (some (.int .i64 ((x:Int)+1))) none).run Tryz.prog w' = .ok (.slice a1 bl.length c1) w':=hcut1;have hcut2':∀w',(Instr.slice 22 (.slice (some ⟨b1,o1,none⟩) l.length c) (some (.int .i64 ((x:Int)+1))) none none).run Tryz.prog w' = .ok v2 w':=hcut2;have HL1:=hid hlen1;have HB1:=hid hB1;have HBC:=hid hB1.cells.2.2;have hx8':bl.length<=8:=by omega
 obtain⟨a2,c2,rfl,_⟩:=HB2.out.shape;clear hcut1 hcut2 hlen1 hB1 hx8 hy d1;have HSM:Hid (∀k (h:k<bl.length),beN (bl.take k)*256+bl[k]<18446744073709551616):=hid fun k h=>by
  rw[<- fP bl k h];exact lI (fun c hc=>HB1.out.lt c (List.mem_of_mem_take hc)) (by rw[List.length_take];omega)
 have HSET:Hid (aF (w.setCell ⟨b,0,none⟩ (.slice a2 rest.length c2)) b rb rest bad):=hid (H.out.set HB2.out hv2');clear hv2';by_cases hgm:eR l<=most
 ·rw[qV (HG.out.2 hgm)];rw[HX.out]at hgm ⊢;have hgi:¬(most:Int)<((beN bl:Nat):Int):=by omega
  have HMOST:=hid hmost;have HD:Hid (l.drop (l.getD 0 0+1)=rest):=hid (by rw[HXX.out];exact HREST.out);rw[HD.out];clear hgm hmost;rcases key with k1|⟨k1,k2,k3,k4⟩
  all_goals
   go_enter Tryz.func72,Tryz.ntmps72;go_wp2_with fail;refine(cE b l bad _ H.out).mono ?_;rintro e w1 ⟨rfl,rfl⟩;go_wp2_with fail
   go_loop [6,62] (fun n i=>∃k:Nat,k<=bl.length/\i = .int .i64 k/\n = .int .u64 (beN (bl.take k):Nat)) (fun _ i=>bl.length-(intOf i).toNat)
   case atStart=>exact⟨0,Nat.zero_le _,rfl,rfl⟩
   case round =>
    obtain⟨k,hk,rfl,rfl⟩:=hrel;by_cases hlt:k<bl.length
    ·obtain⟨b2,o2,rfl,hcell⟩:=HBC.out k hlt;have hx:bl[k]<256:=HB1.out.lt _ (List.getElem_mem hlt);have hsm:=HSM.out k hlt;have HS:=hid (fP bl k hlt);generalize bl[k]=z at hcell hx HS hsm;generalize beN (bl.take k)=n at HS hsm ⊢;have HV:=hid (rI n z hx hsm);clear hsm;go_wp2_with fail
     go_round
     case rel=>exact⟨k+1,by omega,by go_num,by rw[HV.out,HS.out]⟩
     case measure=>simp[intOf];omega
    ·obtain rfl:k=bl.length:=by omega
     go_wp2_with fail
     go_ret2
     exact⟨rfl,HSET.out,Kept.setCell w ⟨b,0,none⟩ _⟩
 ·rw[jK fun h=>hgm (HG.out.1 h)];rw[HX.out]at hgm;have hgi:(most:Int)<((beN bl:Nat):Int):=by omega
  have HMOST:=hid hmost;clear hgm hmost;rcases key with k1|⟨k1,k2,k3,k4⟩
  all_goals
   go_enter Tryz.func72,Tryz.ntmps72;go_wp2_with fail;refine(cE b l bad _ H.out).mono ?_;rintro e w1 ⟨rfl,rfl⟩;go_wp2_with fail
   go_loop [6,62] (fun n i=>∃k:Nat,k<=bl.length/\i = .int .i64 k/\n = .int .u64 (beN (bl.take k):Nat)) (fun _ i=>bl.length-(intOf i).toNat)
   case atStart=>exact⟨0,Nat.zero_le _,rfl,rfl⟩
   case round =>
    obtain⟨k,hk,rfl,rfl⟩:=hrel;by_cases hlt:k<bl.length
    ·obtain⟨b2,o2,rfl,hcell⟩:=HBC.out k hlt;have hx:bl[k]<256:=HB1.out.lt _ (List.getElem_mem hlt);have hsm:=HSM.out k hlt;have HS:=hid (fP bl k hlt);generalize bl[k]=z at hcell hx HS hsm;generalize beN (bl.take k)=n at HS hsm ⊢;have HV:=hid (rI n z hx hsm);clear hsm;go_wp2_with fail
     go_round
     case rel=>exact⟨k+1,by omega,by go_num,by rw[HV.out,HS.out]⟩
     case measure=>simp[intOf];omega
    ·obtain rfl:k=bl.length:=by omega
     go_wp2_with fail;refine(cY b l bad _ H.out).mono ?_;rintro e w1 ⟨rfl,h1,h2⟩;have H1:=hid h1;have H2:=hid h2;clear h1 h2;go_wp2_with fail
     go_ret2
     exact⟨rfl,H1.out,H2.out⟩

theorem tB (b most:Nat)(l:List Nat)(bad:Bool)(w:World)(h:aF w b rb l bad)(hmost:most<18446744073709551616) :
  Calls Tryz.prog 72 #[.pointer (some ⟨b,0,none⟩),.int .u64 most,.bool false] w (hD b rb most l bad w):=by
 by_cases h0:l = []
 ·subst h0;exact aHF b most bad w h
 ·by_cases hb:cK l
  ·exact aHG b most l bad w h (List.length_pos_iff.2 h0) hb
  ·exact aHH b most l bad w h hb hmost

theorem nW (b:Nat)(m:Int)(l:List Nat)(bad:Bool)(w:World)(h:aF w b rb l bad)(hm0:0<=m)(hmost:m<18446744073709551616) :
  Calls Tryz.prog 23 #[.pointer (some ⟨b,0,none⟩),.int .u64 m] w fun e w'=>e = .returned (.int .u64 (aB m.toNat l))/\aF w' b rb (dX m.toNat l) (bad || jJ m.toNat l)/\Kept w w' (fun k=>k=b):=by
 obtain⟨n,rfl⟩:=Int.eq_ofNat_of_zero_le hm0;have C:=hid (tB b n l bad w h (by omega));rw[Int.toNat_natCast];clear h hm0 hmost;go_enter Tryz.func23,Tryz.ntmps23;go_wp2_with fail;refine C.out.mono ?_;rintro e w1 ⟨rfl,h1,h2⟩;have H1:=hid h1;have H2:=hid h2;clear h1 h2;go_wp2_with fail;go_ret;exact⟨rfl,H1.out,H2.out⟩
variable {rb:Nat}

theorem pU (v:Value)(l:List Nat)(w:World)(hB:Bytes w v l)(hrb:l = []\/v.ownBlock=some rb)(hne:rb≠w.heap.size) :
  Calls Tryz.prog 22 #[v] w fun e w'=>e = .returned (.pointer (some ⟨w.heap.size,0,none⟩))/\aF w' w.heap.size rb l false/\Below w.heap.size w w':=by
 have H:=hid hB;have HV:=hid hrb;have HN:=hid hne;obtain⟨a,c,rfl,_⟩:=hB.shape;clear hB hrb hne;go_enter Tryz.func22,Tryz.ntmps22;go_wp2_with fail;go_ret;refine⟨rfl,⟨⟨_,by go_cell,H.out.alloc _,HV.out⟩,HN.out,by go_cell,?_,?_⟩,(Below.refl _ _).alloc (Nat.le_refl _) _⟩
 ·simp
 ·simp

theorem aHI (b n:Nat)(l:List Nat)(bad:Bool)(w:World)(h:aF w b rb l bad)(hn:n<=l.length) :
  Calls Tryz.prog 119 #[.pointer (some ⟨b,0,none⟩),.int .i64 n] w fun e w'=>∃v,e = .returned v/\Bytes w' v (l.take n)/\aF w' b rb (l.drop n) bad/\Kept w w' (fun k=>k=b):=by
 have H:=hid h;obtain⟨v,c0,hB,hvb⟩:=h.ex;have f0:=h.free0;obtain⟨v1,hB1,hcut1⟩:=hB.yZ Tryz.u8s n hn;obtain⟨v2,hB2,hv2,hcut2⟩:=hB.pI Tryz.u8s n hn;have hv2':l.drop n = []\/v2.ownBlock=some rb:=by rw[hv2];exact hvb.imp (fun h=>by rw[h];simp) id
 have hlb:(l.length:Int)<=2097152:=by have:=hB.small;omega
 have hn':(n:Int)<=(l.length:Int):=by omega
 have hn0:¬(n:Int)<0:=by omega
 obtain⟨a,c,rfl,_⟩:=hB.shape;obtain⟨a2,c2,rfl,_⟩:=hB2.shape;rw[List.length_drop]at hcut2 hB2 hv2';have HB1:=hid hB1;have HB2:=hid hB2;have HV2:=hid hv2';have hs1:(ints (l.take n)).length<=2097152:=by rw[aE];exact hB1.small
 have HC0:=hid c0;have HF0:=hid f0;clear h hB hvb hn hB1 hB2 hv2 hv2';go_enter Tryz.func119,Tryz.ntmps119;go_wp2_with fail;refine(cE b l bad _ H.out).mono ?_;rintro e w1 ⟨rfl,rfl⟩;go_wp2_with fail;refine(qJ _ _ _ HB1.out.rd hs1).mono ?_;rintro e w1 ⟨v3,rfl,hown,hb1⟩;have O1:=hid hown;have B1:=hid hb1;clear hown hb1 c0 f0;have c0:=Below.at B1.out HC0.out H.out.lt;have f0:w1.frozen? ⟨b,0,none⟩=false:=(H.out.below B1.out).free0;have O2:Hid (Bytes w1 v3 (l.take n)):=hid (Bytes.fM O1.out HB1.out.lt HB1.out.small);have O3:Hid (v3.ownBlock≠some b):=hid fun e=>by have:=(O1.out.lt b e).1;have:=H.out.lt;omega
 go_wp2_with fail;go_ret;refine⟨_,rfl,O2.out.kept (Kept.setCell _ ⟨b,0,none⟩ _) fun k hk e=>O3.out (by rw[hk,e]),(H.out.below B1.out).set (HB2.out.below B1.out) HV2.out,?_⟩;exact(Kept.aM B1.out (S:=fun k=>k=b) (fun k h1 h2=>by omega)).trans (Kept.setCell _ ⟨b,0,none⟩ _)

theorem eZ (b:Nat)(l:List Nat)(bad:Bool)(w:World)(h:aF w b rb l bad) :
  Calls Tryz.prog 27 #[.pointer (some ⟨b,0,none⟩)] w fun e w'=>e = .returned (.int .i64 (gR l bad))/\w=w':=by
 obtain⟨v,c0,hB,_⟩:=h.ex;have c1:=h.bad;have hlb:(l.length:Int)<=2097152:=by have:=hB.small;omega
 obtain⟨a,c,rfl,_⟩:=hB.shape;cases bad with
 | true =>
  have HE:Hid (gR l true=20):=hid (by simp[gR]);clear h hB;go_enter Tryz.func27,Tryz.ntmps27;go_wp2_with fail;go_ret;exact⟨by rw[HE.out];rfl,rfl⟩
 | false =>
  by_cases h0:0<l.length
  ·have HE:Hid (gR l false=20):=hid (if_pos (.inr h0));have hl:(0:Int)<(l.length:Int):=by omega
   clear h hB h0;go_enter Tryz.func27,Tryz.ntmps27;go_wp2_with fail;go_ret;exact⟨by rw[HE.out];rfl,rfl⟩
  ·have HE:Hid (gR l false=0):=hid (if_neg fun h=>h.elim (fun h=>by cases h) h0);have hl:¬(0:Int)<(l.length:Int):=by omega
   clear h hB h0;go_enter Tryz.func27,Tryz.ntmps27;go_wp2_with fail;go_ret;exact⟨by rw[HE.out];rfl,rfl⟩

theorem xF (b most:Nat)(l:List Nat)(bad:Bool)(w:World)(h:aF w b rb l bad)(hm:most<=1000000) :
  Calls Tryz.prog 73 #[.pointer (some ⟨b,0,none⟩),.int .i64 most] w fun e w'=>e = .returned (.string (eD (dR most l)))/\aF w' b rb (iO most l) (bad || jE most l)/\Kept w w' (fun k=>k=b):=by
 have C:=hid (nW b most l bad w h (by omega) (by omega));have hm':(most:Int)<=1000000:=by omega
 have hm0:¬(most:Int)<0:=by omega
 have hvm:((aB most l:Nat):Int)<=1000000:=by have:=aD most l;omega
 have HN:Hid ((most:Int).toNat=most):=hid (Int.toNat_natCast _);have hsm:(dX most l).length<=2097152:=by
  obtain⟨v,_,hB,_⟩:=h.ex;have:=vQ most l;have:=hB.small;omega
 have hll:((dX most l).length:Int)<=2097152:=by omega
 clear h hm hsm;by_cases hg:eE most l
 ·have HG:=hid hg;have hgi:((aB most l:Nat):Int)<=((dX most l).length:Int):=by unfold eE at hg;omega
  have HV:Hid (dR most l=(dX most l).take (aB most l)/\iO most l=(dX most l).drop (aB most l)/\jE most l=jJ most l):=hid (by simp[dR,iO,jE,hg]);have HGL:Hid (aB most l<=(dX most l).length):=hid hg;clear hg;go_enter Tryz.func73,Tryz.ntmps73;go_wp2_with fail;refine C.out.mono ?_;rintro e w1 ⟨rfl,h1,h2⟩;rw[HN.out]at h1 ⊢;have H1:=hid h1;have H2:=hid h2;clear h1 h2;go_wp2_with fail;refine(cE b _ _ _ H1.out).mono ?_;rintro e w2 ⟨rfl,rfl⟩;go_wp2_with fail;refine(aHI b (aB most l) _ _ _ H1.out HGL.out).mono ?_;rintro e w3 ⟨v3,rfl,hB3,h3,k3⟩;have HB3:=hid hB3;have H3:=hid h3;have K3:=hid k3;clear hB3 h3 k3
  go_wp2_with (refine fN rfl 22 9 5 _ rfl Tryz.underlying22 Tryz.underlying5 Tryz.underlying9 _ _ rfl HB3.out ?_)
  go_ret;exact⟨by rw[HV.out.1];rfl,by rw[HV.out.2.1,HV.out.2.2];exact H3.out,H2.out.trans K3.out⟩
 ·have hgi:((dX most l).length:Int)<((aB most l:Nat):Int):=by unfold eE at hg;omega
  have HV:Hid (dR most l = []/\iO most l = []/\jE most l=true):=hid (by simp[dR,iO,jE,hg]);clear hg;go_enter Tryz.func73,Tryz.ntmps73;go_wp2_with fail;refine C.out.mono ?_;rintro e w1 ⟨rfl,h1,h2⟩;rw[HN.out]at h1 ⊢;have H1:=hid h1;have H2:=hid h2;clear h1 h2;go_wp2_with fail;refine(cE b _ _ _ H1.out).mono ?_;rintro e w2 ⟨rfl,rfl⟩;go_wp2_with fail;refine(cY b _ _ _ H1.out).mono ?_;rintro e w3 ⟨rfl,h3,k3⟩;have H3:=hid h3;have K3:=hid k3;clear h3 k3;go_wp2_with fail;go_ret;exact⟨by rw[HV.out.1];rfl,by rw[HV.out.2.1,HV.out.2.2,Bool.or_true];exact H3.out,H2.out.trans K3.out⟩
end Go.Proofs.YtgeihgombjbkbaaGreat
namespace Go.Proofs.YtgeihgombjbkbaaGreat
open Go.RowKit Go.Maps Go.Proofs.Own

def aV (w:World)(sz:Nat)(v:Value)(rs:List (List Value)):Prop :=
 ∃a c,v = .slice a rs.length c/\rs.length<=c /\ ∀j (h:j<rs.length),∃b o,a=some ⟨b,o,none⟩/\b<w.heap.size /\ ∀i x,rs[j][i]? = some x->w.cell? ⟨b,o+j*sz+i,none⟩=some x
theorem aV.kept {w w':World}{sz:Nat}{v:Value}{rs:List (List Value)}{S:Nat->Prop}(h:aV w sz v rs)(hk:Kept w w' S)(hs:rs = [] \/ ∀b,v.ownBlock=some b -> ¬S b):aV w' sz v rs:=by
 obtain⟨a,c,rfl,hl,hc⟩:=h;refine⟨a,c,rfl,hl,fun j hj=>?_⟩;obtain⟨b,o,rfl,h0,h1⟩:=hc j hj;refine⟨b,o,rfl,Nat.lt_of_lt_of_le h0 hk.size,fun i x hx=>hk.cell (h1 i x hx) ?_⟩;rcases hs with hs|hs
 ·subst hs;exact absurd hj (Nat.not_lt_zero j)
 ·exact hs b rfl
theorem aV.below {w w':World}{sz:Nat}{v:Value}{rs:List (List Value)}(h:aV w sz v rs)(hb:Below w.heap.size w w'):aV w' sz v rs :=
 h.kept (Kept.aM hb (S:=fun _=>False) fun k h1 h2=>by omega) (.inr fun _ _ h=>h)
theorem aV.nil (w:World)(sz:Nat):aV w sz (.slice none 0 0) []:=⟨none,0,rfl,Nat.le_refl _,fun j h=>absurd h (Nat.not_lt_zero j)⟩
theorem aV.shape {w:World}{sz:Nat}{v:Value}{rs:List (List Value)}(h:aV w sz v rs):∃a c,v = .slice a rs.length c/\rs.length<=c:=let ⟨a,c,e,hl,_⟩:=h;⟨a,c,e,hl⟩
theorem aV.at {w:World}{sz:Nat}{a:Option Addr}{n c:Nat}{rs:List (List Value)}(h:aV w sz (.slice a n c) rs){j:Nat}(hj:j<rs.length):∃b o,a=some ⟨b,o,none⟩/\b<w.heap.size /\ ∀i x,rs[j][i]? = some x->w.cell? ⟨b,o+j*sz+i,none⟩=some x:=by
 obtain⟨a',c',e,_,hc⟩:=h;cases e;exact hc j hj
end Go.Proofs.YtgeihgombjbkbaaGreat
namespace Go.Proofs.Own
open Go Go.RowKit

structure dM (w:World)(base:Nat)(e:TypeId)(sz:Nat)(v:Value)(rs:List (List Value)):Prop where
 own:w.ownsRow base e sz v rs.length rs.flatten
 each:∀r ∈ rs,r.length=sz
theorem dM.nil (w:World)(base:Nat)(e:TypeId)(sz:Nat):dM w base e sz (.slice none 0 0) []:=⟨World.ownsRow_nil w base e sz,nofun⟩
theorem dM.lt {w:World}{base:Nat}{e:TypeId}{sz:Nat}{v:Value}{rs:List (List Value)}(h:dM w base e sz v rs):∀b,v.ownBlock=some b->base<=b/\b<w.heap.size:=World.ownsRow.lt h.own
theorem dM.shape {w:World}{base:Nat}{e:TypeId}{sz:Nat}{v:Value}{rs:List (List Value)}(h:dM w base e sz v rs):∃a c,v = .slice a rs.length c:=by
 rcases h.own.2 with ⟨rfl,h0⟩|⟨g,cap,cur,rfl,_⟩
 ·exact⟨none,0,by rw[h0]⟩
 ·exact⟨_,_,rfl⟩
theorem dM.kept {w w':World}{base:Nat}{e:TypeId}{sz:Nat}{v:Value}{rs:List (List Value)}{S:Nat->Prop}(h:dM w base e sz v rs)(hk:Kept w w' S)(hs:∀b,v.ownBlock=some b -> ¬S b):dM w' base e sz v rs:=by
 refine⟨⟨h.own.1,?_⟩,h.each⟩;rcases h.own.2 with hn|⟨g,cap,cur,rfl,hb,hg,r⟩
 ·exact .inl hn
 ·exact .inr ⟨g,cap,cur,rfl,hb,by rw[hk.block g (Array.getElem?_eq_some_iff.1 hg).1 (hs g rfl)];exact hg,r⟩
theorem dM.below {w w':World}{base:Nat}{e:TypeId}{sz:Nat}{v:Value}{rs:List (List Value)}(h:dM w base e sz v rs)(hb:Below w.heap.size w w'):dM w' base e sz v rs :=
 h.kept (Kept.aM hb (S:=fun _=>False) fun k h1 h2=>by omega) fun _ _ h=>h
theorem dM.alloc {w:World}{base:Nat}{e:TypeId}{sz:Nat}{v:Value}{rs:List (List Value)}(h:dM w base e sz v rs)(o:Obj):dM (w.alloc o) base e sz v rs:=h.below ((Below.refl _ _).alloc (Nat.le_refl _) o)
theorem nJ {sz:Nat}:∀ {rs:List (List Value)},(∀r ∈ rs,r.length=sz) -> ∀ {j:Nat} (hj:j<rs.length) {i:Nat} {x:Value},rs[j][i]? = some x->rs.flatten[j*sz+i]? = some x
 | [],_,j,hj,_,_,_=>absurd hj (Nat.not_lt_zero j)
 | r::rs,h,j,hj,i,x,hx=>by
  have hr:r.length=sz:=h r List.mem_cons_self;cases j with
  | zero =>
   have hx':r[i]? = some x:=by simpa using hx
   have hi:i<r.length:=(List.getElem?_eq_some_iff.1 hx').1;rw[List.flatten_cons,Nat.zero_mul,Nat.zero_add,List.getElem?_append_left hi];exact hx'
  | succ j =>
   have hx':(rs[j]'(by simpa using hj))[i]? = some x:=by simpa using hx
   rw[List.flatten_cons,List.getElem?_append_right (by rw[hr,Nat.add_mul];omega),hr,show (j+1)*sz+i-sz=j*sz+i by rw[Nat.add_mul];omega];exact nJ (fun q hq=>h q (List.mem_cons_of_mem _ hq)) _ hx'
theorem eA {sz:Nat}:∀ {rs:List (List Value)},(∀r ∈ rs,r.length=sz)->rs.flatten.length=rs.length*sz
 | [],_=>by simp
 | r::rs,h=>by
  rw[List.flatten_cons,List.length_append,h r List.mem_cons_self,eA fun q hq=>h q (List.mem_cons_of_mem _ hq),List.length_cons,Nat.add_mul];omega

structure cN (P:Program)(t e:TypeId)(sz by':Nat):Prop where
 under:P.underlying t=some (.slice e)
 info:∃i z,P.info? e=some i/\i.zero=some z/\i.size=sz/\i.bytes=by'/\z.cells.size=sz
 pos:0<sz
 few:by'<=1024

theorem oI {P:Program}{t e:TypeId}{sz by':Nat}(I:cN P t e sz by')(w:World)(ty:TypeId)(base:Nat)(v:Value)(rs:List (List Value))(g:Nat)(r:List Value)
  (hown:dM w base e sz v rs) (hr:r.length=sz) (hc:∀j u,r[j]? = some u->w.cell? ⟨g,j,none⟩=some u) (h1:∀u ∈ r,u.oneCell'=true) (hlen:rs.length<=4294967296) (hbase:base<=w.heap.size) :
  ∃v' w',(Builtin.append_ #[t,t] ty #[v,.slice (some ⟨g,0,none⟩) 1 1]).run P w = .ok v' w'/\dM w' base e sz v' (rs ++ [r])/\w.grownBy w' v.ownBlock/\(v'.ownBlock=v.ownBlock\/v'.ownBlock=some w.heap.size)/\Below base w w':=by
 obtain⟨i,z,hi,hz,hs,hb,hzs⟩:=I.info;obtain⟨v',w',hrun,g1,g2,_,g4⟩:=run_append_own_at (P:=P) w base t ty e i z sz by' I.under hi hz hs hb hzs I.pos v rs.length rs.flatten hown.own ⟨g,0,none⟩ 1 1 r (by rw[hr];omega)
  (fun j u hu=>by rw[Addr.add_lit,Nat.zero_add];exact hc j u hu) h1 (by unfold maxLen;omega) (by have:=Nat.mul_le_mul (show rs.length+1<=4294967297 by omega) I.few;omega) hbase
 refine⟨v',w',hrun,⟨by rw[List.length_append,List.flatten_append];simpa using g1,?_⟩,g2,g4,(Below.refl _ _).grown g2 hbase fun k hk=>(hown.lt k hk).1⟩;intro q hq;rcases List.mem_append.1 hq with hq|hq
 ·exact hown.each q hq
 ·obtain rfl:=List.mem_singleton.1 hq;exact hr

section
variable {P:Program} {t e:TypeId} {sz by':Nat} (I:cN P t e sz by') {w:World} {o:Oper} {a:Act} {Q:Exit->Act->World->Prop} (s x:Operand)
 (ho:o.op = .call { callee:=.builtin .append,args:=#[s,x],argTypes:=#[t,t] }) (base:Nat) (v:Value) (rs:List (List Value)) (g:Nat) (r:List Value) (hs:a.eval s=v) (hx:a.eval x = .slice (some ⟨g,0,none⟩) 1 1)
 (hown:dM w base e sz v rs) (hr:r.length=sz) (hc:∀j u,r[j]? = some u->w.cell? ⟨g,j,none⟩=some u) (h1:∀u ∈ r,u.oneCell'=true) (hlen:rs.length<=4294967296) (hbase:base<=w.heap.size)
include I ho hs hx hown hr hc h1 hlen hbase
theorem pC {K:Act->World->Prop}
  (h:∀v' w',dM w' base e sz v' (rs ++ [r])->w.grownBy w' v.ownBlock->(v'.ownBlock=v.ownBlock\/v'.ownBlock=some w.heap.size)->Below base w w'->K (a.put o.dst v') w'):o.wp P a w K Q:=by
 obtain⟨v',w',hrun,k1,k2,k3,k4⟩:=oI I w o.type base v rs g r hown hr hc h1 hlen hbase;unfold Oper.wp execOp;simp only[ho,resolve,invoke,builtin,Sem.run_bind,Sem.run_pure,Result.andThen_ok,List.map_toArray,List.map_cons,List.map_nil,hs,hx,hrun];exact h v' w' k1 k2 k3 k4
theorem lG {ops:Array Oper}{rest:List Oper}(hgd:o.guard=none)
  (h:∀v' w',dM w' base e sz v' (rs ++ [r])->w.grownBy w' v.ownBlock->(v'.ownBlock=v.ownBlock\/v'.ownBlock=some w.heap.size)->Below base w w'->wpList P ops Q rest (a.put o.dst v') w') :
  wpList P ops Q (o::rest) a w :=
 wpList_plain hgd fun _ hK=>pC I s x ho base v rs g r hs hx hown hr hc h1 hlen hbase fun v' w' k1 k2 k3 k4=>hK _ _ (h v' w' k1 k2 k3 k4)
end
end Go.Proofs.Own
namespace Go.Proofs.YtgeihgombjbkbaaGreat
open Go.RowKit Go.Maps Go.Proofs.Own
theorem aV.dF {w:World}{base:Nat}{e:TypeId}{sz:Nat}{v:Value}{rs:List (List Value)}(h:dM w base e sz v rs):aV w sz v rs:=by
 have hw:=h.own;rcases h.own.2 with ⟨rfl,h0⟩|⟨g,cap,cur,rfl,_,hg,hn,_⟩
 ·have:rs = []:=List.eq_nil_of_length_eq_zero h0;subst this;exact aV.nil w sz
 ·refine⟨_,_,rfl,hn,fun j hj=>⟨g,0,rfl,(Array.getElem?_eq_some_iff.1 hg).1,fun i x hx=>?_⟩⟩;rw[Nat.zero_add];have hf:=nJ h.each hj hx;have hlt:j*sz+i<rs.length*sz:=by
   have:=(List.getElem?_eq_some_iff.1 hf).1
   rwa [eA h.each]at this
  rw[hw.cellAt (j*sz+i) hlt];exact hf
end Go.Proofs.YtgeihgombjbkbaaGreat
namespace Go.Proofs.YtgeihgombjbkbaaGreat
open Go.Lib (hid)
open Go.RowKit Go.Maps Go.Proofs.Own
variable {rb:Nat}

def unm:List Nat->List Nat
 | []=>[]
 | c::r=>c % 128::r
theorem jQ (l:List Nat):(unm l).getD 0 0=l.getD 0 0 % 128:=by cases l<;>rfl
theorem qD (l:List Nat):(unm l).getD 1 0=l.getD 1 0:=by cases l<;>rfl
theorem jV (l:List Nat):(unm l).length=l.length:=by cases l<;>rfl
theorem gW (k:Nat)(l:List Nat):(unm l).drop (k+1)=l.drop (k+1):=by cases l<;>simp[unm]
def sM (most:Nat)(l:List Nat):Bool:=if cH most (unm l) then decide ((128:Int)<=(l.getD 0 0:Nat)) else false
def gJ (b rb most:Nat)(l:List Nat)(bad:Bool)(w:World):Ending->World->Prop:=fun e w'=>e = .returned (.tuple #[.int .u64 (aB most (unm l)),.bool (sM most l)])/\aF w' b rb (dX most (unm l)) (bad || jJ most (unm l))/\Kept w w' (fun k=>k=b)
theorem jI {b most:Nat}{l:List Nat}{bad:Bool}{w:World}(h:¬cH most (unm l)):gJ b rb most l bad w=fun e w'=>e = .returned (.tuple #[.int .u64 0,.bool false])/\aF w' b rb [] true/\Kept w w' (fun k=>k=b):=by
 unfold gJ aB dX jJ sM;simp[h]
theorem qT {b most:Nat}{l:List Nat}{bad:Bool}{w:World}(h:cH most (unm l)):gJ b rb most l bad w=fun e w'=>e = .returned (.tuple #[.int .u64 (eR (unm l)),.bool (decide ((128:Int)<=(l.getD 0 0:Nat)))])/\aF w' b rb (l.drop (l.getD 0 0 % 128+1)) bad/\Kept w w' (fun k=>k=b):=by
 unfold gJ aB dX jJ sM;rw[gW,jQ];simp[h]

theorem aHC (b most:Nat)(bad:Bool)(w:World)(h:aF w b rb [] bad) :
  Calls Tryz.prog 72 #[.pointer (some ⟨b,0,none⟩),.int .u64 most,.bool true] w (gJ b rb most [] bad w):=by
 rw[jI (by simp[cH,cK,unm])];have H:=hid h;clear h;go_enter Tryz.func72,Tryz.ntmps72;go_wp2_with fail;refine(cE b [] bad _ H.out).mono ?_;rintro e w1 ⟨rfl,rfl⟩;go_wp2_with fail;refine(cY b [] bad _ H.out).mono ?_;rintro e w1 ⟨rfl,h1,h2⟩;have H1:=hid h1;have H2:=hid h2;clear h1 h2;go_wp2_with fail
 go_ret2
 exact⟨rfl,H1.out,H2.out⟩

theorem aHD (b most:Nat)(l:List Nat)(bad:Bool)(w:World)(h:aF w b rb l bad)(hne:0<l.length)(hbad:cK (unm l)) :
  Calls Tryz.prog 72 #[.pointer (some ⟨b,0,none⟩),.int .u64 most,.bool true] w (gJ b rb most l bad w):=by
 rw[jI fun h=>h.1 hbad];have H:=hid h;obtain⟨v,c0,hB,_⟩:=h.ex;obtain⟨b1,o1,c,rfl,hle,hbs,hcell⟩:=hB.cM hne;have d0:w.cell? ⟨b1,o1,none⟩=some (.int .u8 (l.getD 0 0:Nat)):=hcell 0 hne;have d1:1<l.length->w.cell? ⟨b1,o1+1,none⟩=some (.int .u8 (l.getD 1 0:Nat)):=fun h=>hcell 1 h;have x0:=hB.aU 0;have x1:=hB.aU 1;have hlb:(l.length:Int)<=2097152:=by have:=hB.small;omega
 have hl0:((l.length:Int)==0)=false:=beq_eq_false_iff_ne.2 (by omega);have i0:(0:Int)<(l.length:Int):=by omega
 unfold cK at hbad;rw[jQ,qD,jV]at hbad;generalize l.getD 0 0=z at d0 x0 hbad;generalize l.getD 1 0=y at d1 x1 hbad;have hz:(z:Int).tmod 128=((z % 128:Nat):Int):=(Int.ofNat_tmod z 128).symm;generalize z % 128=x at hbad hz;have key:((8:Int)<(x:Int))\/((x:Int)<=8/\(l.length:Int)<=(x:Int))\/((x:Int)<=8/\(x:Int)<(l.length:Int)/\(0:Int)<(x:Int)/\((y:Int)==0)=true):=by
  by_cases h8:8<x
  ·exact .inl (by omega)
  ·by_cases hll:l.length<=x
   ·exact .inr (.inl ⟨by omega,by omega⟩)
   ·exact .inr (.inr ⟨by omega,by omega,by omega,by simp;omega⟩)
 clear h hB hcell hle hbad hne;rcases key with k1|⟨k1,k2⟩|⟨k1,k2,k3,k4⟩
 ·clear d1;go_enter Tryz.func72,Tryz.ntmps72;go_wp2_with fail;refine(cE b l bad _ H.out).mono ?_;rintro e w1 ⟨rfl,rfl⟩;go_wp2_with fail;refine(cY b l bad _ H.out).mono ?_;rintro e w1 ⟨rfl,h1,h2⟩;have H1:=hid h1;have H2:=hid h2;clear h1 h2;go_wp2_with fail
  go_ret2
  exact⟨rfl,H1.out,H2.out⟩
 ·clear d1;go_enter Tryz.func72,Tryz.ntmps72;go_wp2_with fail;refine(cE b l bad _ H.out).mono ?_;rintro e w1 ⟨rfl,rfl⟩;go_wp2_with fail;refine(cY b l bad _ H.out).mono ?_;rintro e w1 ⟨rfl,h1,h2⟩;have H1:=hid h1;have H2:=hid h2;clear h1 h2;go_wp2_with fail
  go_ret2
  exact⟨rfl,H1.out,H2.out⟩
 ·have d1':=d1 (by omega);have i1:(1:Int)<(l.length:Int):=by omega
  clear d1;go_enter Tryz.func72,Tryz.ntmps72;go_wp2_with fail;refine(cE b l bad _ H.out).mono ?_;rintro e w1 ⟨rfl,rfl⟩;go_wp2_with fail;refine(cY b l bad _ H.out).mono ?_;rintro e w1 ⟨rfl,h1,h2⟩;have H1:=hid h1;have H2:=hid h2;clear h1 h2;go_wp2_with fail
  go_ret2
  exact⟨rfl,H1.out,H2.out⟩

theorem aHE (b most:Nat)(l:List Nat)(bad:Bool)(w:World)(h:aF w b rb l bad)(hb:¬cK (unm l))(hmost:most<18446744073709551616) :
  Calls Tryz.prog 72 #[.pointer (some ⟨b,0,none⟩),.int .u64 most,.bool true] w (gJ b rb most l bad w):=by
 have H:=hid h;obtain⟨v,c0,hB,hvb⟩:=h.ex;have f0:=h.free0;have hx8:l.getD 0 0 % 128<=8/\l.getD 0 0 % 128<l.length:=by unfold cK at hb;rw[jQ,qD,jV]at hb;omega
 have hy:0<l.getD 0 0 % 128->l.getD 1 0≠0:=by unfold cK at hb;rw[jQ,qD,jV]at hb;omega
 have hz:(l.getD 0 0:Int).tmod 128=((l.getD 0 0 % 128:Nat):Int):=(Int.ofNat_tmod (l.getD 0 0) 128).symm;obtain⟨v1,hB1,hcut1⟩:=hB.aIt Tryz.u8s 1 (l.getD 0 0 % 128+1) (by omega) (by omega);obtain⟨v2,hB2,hv2,hcut2⟩:=hB.pI Tryz.u8s (l.getD 0 0 % 128+1) (by omega);have e1:(l.take (l.getD 0 0 % 128+1)).drop 1=(l.drop 1).take (l.getD 0 0 % 128):=by rw[List.drop_take];congr 1
 rw[e1]at hB1;have HX:Hid (eR (unm l)=beN ((l.drop 1).take (l.getD 0 0 % 128))):=hid (by unfold eR;rw[gW 0,jQ]);obtain⟨b1,o1,c,rfl,hle,hbs,hcell⟩:=hB.cM (by omega);have d0:w.cell? ⟨b1,o1,none⟩=some (.int .u8 (l.getD 0 0:Nat)):=hcell 0 (by omega);have d1:0<l.getD 0 0 % 128->w.cell? ⟨b1,o1+1,none⟩=some (.int .u8 (l.getD 1 0:Nat)):=fun h=>hcell 1 (by omega);have x0:=hB.aU 0;have x1:=hB.aU 1;have hlb:(l.length:Int)<=2097152:=by have:=hB.small;omega
 have hl0:((l.length:Int)==0)=false:=beq_eq_false_iff_ne.2 (by omega);have i0:(0:Int)<(l.length:Int):=by omega
 have hlen1:((l.drop 1).take (l.getD 0 0 % 128)).length=l.getD 0 0 % 128:=by rw[List.length_take,List.length_drop];omega
 have HG:Hid (cH most (unm l) ↔ eR (unm l)<=most):=hid ⟨fun h=>h.2,fun h=>⟨hb,h⟩⟩;have hv2':l.drop (l.getD 0 0 % 128+1) = []\/v2.ownBlock=some rb:=by rw[hv2];exact hvb.imp (fun h=>by rw[h];simp) id
 have HB2:=hid hB2;clear h hB hcell hle hb e1 hvb hv2 hB2;generalize hrest:l.drop (l.getD 0 0 % 128+1)=rest at HB2 hv2';generalize hbl:(l.drop 1).take (l.getD 0 0 % 128)=bl at hB1 HX hlen1;have HREST:=hid hrest;clear hbl hrest;generalize hxx:l.getD 0 0 % 128=x at *
 generalize hzz:l.getD 0 0=z at *
 have HXX:=hid hxx;clear hxx;generalize l.getD 1 0=y at *
 have key:(x:Int)<=0\/((0:Int)<(x:Int)/\((y:Int)==0)=false/\w.cell? ⟨b1,o1+1,none⟩=some (.int .u8 (y:Nat))/\(1:Int)<(l.length:Int)):=by
  by_cases h0:x=0
  ·exact .inl (by omega)
  ·exact .inr ⟨by omega,by have:=hy (by omega);simp;omega,d1 (by omega),by omega⟩
 have k8:(x:Int)<=8:=by omega
 have kl:(x:Int)<(l.length:Int):=by omega
 obtain⟨a1,c1,rfl,_⟩:=hB1.shape;have hcut1':∀w',(Instr.slice 22 (.slice (some ⟨b1,o1,none⟩) l.length c) (some (.int .i64 1)) (some (.int .i64 ((x:Int)+1))) none).run Tryz.prog w' = .ok (.slice a1 bl.length c1) w':=hcut1;have hcut2':∀w',(Instr.slice 22 (.slice (some ⟨b1,o1,none⟩) l.length c) (some (.int .i64 ((x:Int)+1))) none none).run Tryz.prog w' = .ok v2 w':=hcut2;have HL1:=hid hlen1;have HB1:=hid hB1;have HBC:=hid hB1.cells.2.2;have hx8':bl.length<=8:=by omega
 obtain⟨a2,c2,rfl,_⟩:=HB2.out.shape;clear hcut1 hcut2 hlen1 hB1 hx8 hy d1;have HSM:Hid (∀k (h:k<bl.length),beN (bl.take k)*256+bl[k]<18446744073709551616):=hid fun k h=>by
  rw[<- fP bl k h];exact lI (fun c hc=>HB1.out.lt c (List.mem_of_mem_take hc)) (by rw[List.length_take];omega)
 have HSET:Hid (aF (w.setCell ⟨b,0,none⟩ (.slice a2 rest.length c2)) b rb rest bad):=hid (H.out.set HB2.out hv2');clear hv2';by_cases hgm:eR (unm l)<=most
 ·rw[qT (HG.out.2 hgm)];rw[HX.out]at hgm ⊢;have hgi:¬(most:Int)<((beN bl:Nat):Int):=by omega
  have HMOST:=hid hmost;rw[hzz,HXX.out,HREST.out];clear hgm hmost;rcases key with k1|⟨k1,k2,k3,k4⟩
  all_goals
   go_enter Tryz.func72,Tryz.ntmps72;go_wp2_with fail;refine(cE b l bad _ H.out).mono ?_;rintro e w1 ⟨rfl,rfl⟩;go_wp2_with fail
   go_loop [6,62] (fun n i=>∃k:Nat,k<=bl.length/\i = .int .i64 k/\n = .int .u64 (beN (bl.take k):Nat)) (fun _ i=>bl.length-(intOf i).toNat)
   case atStart=>exact⟨0,Nat.zero_le _,rfl,rfl⟩
   case round =>
    obtain⟨k,hk,rfl,rfl⟩:=hrel;by_cases hlt:k<bl.length
    ·obtain⟨b2,o2,rfl,hcell⟩:=HBC.out k hlt;have hx:bl[k]<256:=HB1.out.lt _ (List.getElem_mem hlt);have hsm:=HSM.out k hlt;have HS:=hid (fP bl k hlt);generalize bl[k]=z at hcell hx HS hsm;generalize beN (bl.take k)=n at HS hsm ⊢;have HV:=hid (rI n z hx hsm);clear hsm;go_wp2_with fail
     go_round
     case rel=>exact⟨k+1,by omega,by go_num,by rw[HV.out,HS.out]⟩
     case measure=>simp[intOf];omega
    ·obtain rfl:k=bl.length:=by omega
     go_wp2_with fail
     go_ret2
     exact⟨rfl,HSET.out,Kept.setCell w ⟨b,0,none⟩ _⟩
 ·rw[jI fun h=>hgm (HG.out.1 h)];rw[HX.out]at hgm;have hgi:(most:Int)<((beN bl:Nat):Int):=by omega
  have HMOST:=hid hmost;clear hgm hmost;rcases key with k1|⟨k1,k2,k3,k4⟩
  all_goals
   go_enter Tryz.func72,Tryz.ntmps72;go_wp2_with fail;refine(cE b l bad _ H.out).mono ?_;rintro e w1 ⟨rfl,rfl⟩;go_wp2_with fail
   go_loop [6,62] (fun n i=>∃k:Nat,k<=bl.length/\i = .int .i64 k/\n = .int .u64 (beN (bl.take k):Nat)) (fun _ i=>bl.length-(intOf i).toNat)
   case atStart=>exact⟨0,Nat.zero_le _,rfl,rfl⟩
   case round =>
    obtain⟨k,hk,rfl,rfl⟩:=hrel;by_cases hlt:k<bl.length
    ·obtain⟨b2,o2,rfl,hcell⟩:=HBC.out k hlt;have hx:bl[k]<256:=HB1.out.lt _ (List.getElem_mem hlt);have hsm:=HSM.out k hlt;have HS:=hid (fP bl k hlt);generalize bl[k]=z at hcell hx HS hsm;generalize beN (bl.take k)=n at HS hsm ⊢;have HV:=hid (rI n z hx hsm);clear hsm;go_wp2_with fail
     go_round
     case rel=>exact⟨k+1,by omega,by go_num,by rw[HV.out,HS.out]⟩
     case measure=>simp[intOf];omega
    ·obtain rfl:k=bl.length:=by omega
     go_wp2_with fail;refine(cY b l bad _ H.out).mono ?_;rintro e w1 ⟨rfl,h1,h2⟩;have H1:=hid h1;have H2:=hid h2;clear h1 h2;go_wp2_with fail
     go_ret2
     exact⟨rfl,H1.out,H2.out⟩

theorem tA (b most:Nat)(l:List Nat)(bad:Bool)(w:World)(h:aF w b rb l bad)(hmost:most<18446744073709551616) :
  Calls Tryz.prog 72 #[.pointer (some ⟨b,0,none⟩),.int .u64 most,.bool true] w (gJ b rb most l bad w):=by
 by_cases h0:l = []
 ·subst h0;exact aHC b most bad w h
 ·by_cases hb:cK (unm l)
  ·exact aHD b most l bad w h (List.length_pos_iff.2 h0) hb
  ·exact aHE b most l bad w h hb hmost
def gZ:Nat:=9223372036854775807
def eU (l:List Nat):Int:=if sM gZ l then -1-(aB gZ (unm l):Int) else aB gZ (unm l)
def uK (l:List Nat):List Nat:=dX gZ (unm l)
def wU (l:List Nat):Bool:=jJ gZ (unm l)
theorem sE (l:List Nat):-9223372036854775808<=eU l/\eU l<9223372036854775808:=by
 have:=aD gZ (unm l);unfold eU;unfold gZ at *
 split<;>omega
theorem aHB (b:Nat)(l:List Nat)(bad:Bool)(w:World)(h:aF w b rb l bad) :
  Calls Tryz.prog 24 #[.pointer (some ⟨b,0,none⟩)] w fun e w'=>e = .returned (.int .i64 (eU l))/\aF w' b rb (uK l) (bad || wU l)/\Kept w w' (fun k=>k=b):=by
 have C:=hid (tA b gZ l bad w h (by decide));have hle:(aB gZ (unm l):Int)<=9223372036854775807:=by have:=aD gZ (unm l);unfold gZ at *;omega
 unfold gJ at C;unfold eU uK wU;rw[show ((gZ:Nat):Int)=9223372036854775807 from rfl]at C;generalize aB gZ (unm l)=n at C hle;clear h;generalize sM gZ l=m at C ⊢;cases m
 all_goals
  go_enter Tryz.func24,Tryz.ntmps24;go_wp2_with fail;refine C.out.mono ?_;rintro e w1 ⟨rfl,h1,h2⟩;have H1:=hid h1;have H2:=hid h2;clear h1 h2;go_wp2_with fail;go_ret;exact⟨by first|rfl|(simp;done),H1.out,H2.out⟩
theorem aHz (b:Nat)(l:List Nat)(bad:Bool)(w:World)(h:aF w b rb l bad) :
  Calls Tryz.prog 25 #[.pointer (some ⟨b,0,none⟩)] w fun e w'=>e = .returned (.bool bad)/\w=w':=by
 have c1:=h.bad;clear h;go_enter Tryz.func25,Tryz.ntmps25;go_wp2_with fail;go_ret;exact⟨rfl,rfl⟩
variable {rb:Nat}

theorem sN (n z:Nat)(hn:n*256+z<18446744073709551616):IntKind.u64.wrap (IntKind.u64.wrap ((n:Int)*256)+(z:Int))=((n*256+z:Nat):Int):=by
 have h1:n*256<18446744073709551616:=Nat.lt_of_le_of_lt (Nat.le_add_right _ _) hn;have hw:IntKind.u64.wrap ((n:Int)*256)=((n*256:Nat):Int):=by
  rw[wrap_u64];exact Int.emod_eq_of_lt (Int.natCast_nonneg (n*256)) (Int.ofNat_lt.2 h1)
 rw[hw,wrap_u64];exact Int.emod_eq_of_lt (Int.natCast_nonneg (n*256+z)) (Int.ofNat_lt.2 hn)

theorem eP (b:Nat)(l:List Nat)(bad:Bool)(w:World)(h:aF w b rb l bad) :
  Calls Tryz.prog 78 #[.pointer (some ⟨b,0,none⟩)] w fun e w'=>e = .returned (.tuple #[])/\aF w' b rb [] true/\Kept w w' (fun k=>k=b):=by
 have H:=hid h;obtain⟨v,c0,_,_⟩:=h.ex;have c1:=h.bad;have f0:=h.free0;have f1:=h.free1;clear h;go_enter Tryz.func78,Tryz.ntmps78;go_wp2_with fail
 go_end0
 refine⟨rfl,(H.out.set (Bytes.nil _) (.inl rfl)).aH1 true,(Kept.setCell w ⟨b,0,none⟩ _).trans (Kept.setCell _ ⟨b,1,none⟩ _)⟩

theorem pW (b:Nat)(bad:Bool)(w:World)(h:aF w b rb [] bad) :
  Calls Tryz.prog 76 #[.pointer (some ⟨b,0,none⟩)] w fun e w'=>e = .returned (.tuple #[.int .u8 0,.bool false])/\w=w':=by
 obtain⟨v,c0,hB,_⟩:=h.ex;obtain⟨a,c,rfl,_⟩:=hB.shape;clear h hB;go_enter Tryz.func76,Tryz.ntmps76;go_wp2_with fail
 go_ret2
 exact⟨rfl,rfl⟩

theorem eL (b:Nat)(l:List Nat)(bad:Bool)(w:World)(h:aF w b rb l bad)(hne:0<l.length) :
  Calls Tryz.prog 76 #[.pointer (some ⟨b,0,none⟩)] w fun e w'=>e = .returned (.tuple #[.int .u8 (l.getD 0 0:Nat),.bool true])/\aF w' b rb (l.drop 1) bad/\Kept w w' (fun k=>k=b):=by
 have H:=hid h;obtain⟨v,c0,hB,hvb⟩:=h.ex;have f0:=h.free0;obtain⟨v2,hB2,hv2,hcut2⟩:=hB.pI Tryz.u8s 1 (by omega);have hv2':l.drop 1 = []\/v2.ownBlock=some rb:=by rw[hv2];exact hvb.imp (fun h=>by rw[h];simp) id
 obtain⟨b1,o1,c,rfl,hle,hbs,hcell⟩:=hB.cM hne;have d0:w.cell? ⟨b1,o1,none⟩=some (.int .u8 (l.getD 0 0:Nat)):=hcell 0 hne;have hlb:(l.length:Int)<=2097152:=by have:=hB.small;omega
 have hl0:((l.length:Int)==0)=false:=beq_eq_false_iff_ne.2 (by omega);have i0:(0:Int)<(l.length:Int):=by omega
 obtain⟨a2,c2,rfl,_⟩:=hB2.shape;have x0:=hB.aU 0;rw[List.length_drop]at hcut2 hB2 hv2';have hcut2':∀w',(Instr.slice 22 (.slice (some ⟨b1,o1,none⟩) l.length c) (some (.int .i64 1)) none none).run Tryz.prog w' = .ok (.slice a2 (l.length-1) c2) w':=hcut2;have HS:Hid (aF (w.setCell ⟨b,0,none⟩ (.slice a2 (l.length-1) c2)) b rb (l.drop 1) bad):=hid (H.out.set hB2 hv2');clear h hB hcell hle hcut2 hB2 hvb hv2' hv2 hne;generalize l.getD 0 0=x at d0 x0 ⊢;go_enter Tryz.func76,Tryz.ntmps76;go_wp2_with fail
 go_ret2
 exact⟨rfl,HS.out,Kept.setCell w ⟨b,0,none⟩ _⟩

def lO (n:Nat)(l:List Nat):Prop:=8<n\/l.length<n\/(0<n/\l.getD 0 0=0)

theorem oE (b n:Nat)(l:List Nat)(bad:Bool)(w:World)(h:aF w b rb l bad)(hb:lO n l)(hn:n<256) :
  Calls Tryz.prog 77 #[.pointer (some ⟨b,0,none⟩),.int .i64 n] w fun e w'=>e = .returned (.tuple #[.int .u64 0,.bool false])/\w=w':=by
 obtain⟨v,c0,hB,_⟩:=h.ex;obtain⟨a,c,rfl,hle⟩:=hB.shape;have hlb:(l.length:Int)<=2097152:=by have:=hB.small;omega
 have hn':(n:Int)<256:=by omega
 have key:(8:Int)<(n:Int)\/((n:Int)<=8/\(l.length:Int)<(n:Int))\/((n:Int)<=8/\(n:Int)<=(l.length:Int)/\(0:Int)<(n:Int) /\ ∃b1 o1,a=some ⟨b1,o1,none⟩/\(0:Int)<(l.length:Int)/\w.cell? ⟨b1,o1,none⟩=some (.int .u8 0)):=by
  unfold lO at hb;by_cases h8:8<n
  ·exact .inl (by omega)
  ·by_cases hl:l.length<n
   ·exact .inr (.inl ⟨by omega,by omega⟩)
   ·obtain⟨_,_,hc⟩:=hB.cells;obtain⟨b1,o1,e,hc0⟩:=hc 0 (by omega);refine .inr (.inr ⟨by omega,by omega,by omega,b1,o1,e,by omega,?_⟩);have h0:l.getD 0 0=0:=by omega
    rw[pK (by omega)]at h0;rw[h0]at hc0;exact hc0
 clear h hB hb hn;rcases key with k1|⟨k1,k2⟩|⟨k1,k2,k3,b1,o1,rfl,k4,k5⟩
 all_goals
  go_enter Tryz.func77,Tryz.ntmps77;go_wp2_with fail
  go_ret2
  exact⟨rfl,rfl⟩

theorem fV (b n:Nat)(l:List Nat)(bad:Bool)(w:World)(h:aF w b rb l bad)(hb:¬lO n l) :
  Calls Tryz.prog 77 #[.pointer (some ⟨b,0,none⟩),.int .i64 n] w fun e w'=>e = .returned (.tuple #[.int .u64 (beN (l.take n):Nat),.bool true])/\aF w' b rb (l.drop n) bad/\Kept w w' (fun k=>k=b):=by
 have H:=hid h;obtain⟨v,c0,hB,hvb⟩:=h.ex;have f0:=h.free0;have hn8:n<=8/\n<=l.length:=by unfold lO at hb;omega
 have hn0:0<n->l.getD 0 0≠0:=by unfold lO at hb;omega
 obtain⟨v2,hB2,hv2,hcut2⟩:=hB.pI Tryz.u8s n (by omega);have hv2':l.drop n = []\/v2.ownBlock=some rb:=by rw[hv2];exact hvb.imp (fun h=>by rw[h];simp) id
 obtain⟨a,c,rfl,hle⟩:=hB.shape;obtain⟨a2,c2,rfl,_⟩:=hB2.shape;have HC:=hid hB.cells.2.2;have HLT:=hid hB.lt;have hlb:(l.length:Int)<=2097152:=by have:=hB.small;omega
 rw[List.length_drop]at hcut2 hB2 hv2';have HS:Hid (aF (w.setCell ⟨b,0,none⟩ (.slice a2 (l.length-n) c2)) b rb (l.drop n) bad):=hid (H.out.set hB2 hv2');have key:(n:Int)<=0\/((0:Int)<(n:Int) /\ ∃b1 o1,a=some ⟨b1,o1,none⟩/\(0:Int)<(l.length:Int)/\w.cell? ⟨b1,o1,none⟩=some (.int .u8 (l.getD 0 0:Nat))/\(((l.getD 0 0:Nat):Int)==0)=false):=by
  by_cases h0:0<n
  ·obtain⟨b1,o1,e,hc0⟩:=HC.out 0 (by omega);refine .inr ⟨by omega,b1,o1,e,by omega,?_,beq_eq_false_iff_ne.2 (by have:=hn0 h0;omega)⟩;rw[pK (by omega)];exact hc0
  ·exact .inl (by omega)
 have n8:(n:Int)<=8:=by omega
 have nl:(n:Int)<=(l.length:Int):=by omega
 have HNL:Hid (n<=l.length):=hid hn8.2;have HSM:Hid (∀k (h:k<l.length),k<n->beN (l.take k)*256+l[k]<18446744073709551616):=hid fun k h hk=>by
  rw[<- fP l k h];exact lI (fun c hc=>hB.lt c (List.mem_of_mem_take hc)) (by rw[List.length_take];omega)
 clear h hB hb hvb hle hB2 hv2 hv2' hn0 hn8;generalize l.getD 0 0=x0 at key;rcases key with k1|⟨k1,b1,o1,rfl,k2,k3,k4⟩
 ·go_enter Tryz.func77,Tryz.ntmps77;go_wp2_with fail
  go_loop [6,7] (fun x i=>∃k:Nat,k<=n/\i = .int .i64 k/\x = .int .u64 (beN (l.take k):Nat)) (fun _ i=>n-(intOf i).toNat)
  case atStart=>exact⟨0,Nat.zero_le _,rfl,rfl⟩
  case round =>
   obtain⟨k,hk,rfl,rfl⟩:=hrel;obtain rfl:k=n:=by omega
   go_wp2_with fail
   go_ret2
   exact⟨rfl,HS.out,Kept.setCell w ⟨b,0,none⟩ _⟩
 ·go_enter Tryz.func77,Tryz.ntmps77;go_wp2_with fail
  go_loop [6,7] (fun x i=>∃k:Nat,k<=n/\i = .int .i64 k/\x = .int .u64 (beN (l.take k):Nat)) (fun _ i=>n-(intOf i).toNat)
  case atStart=>exact⟨0,Nat.zero_le _,rfl,rfl⟩
  case round =>
   obtain⟨k,hk,rfl,rfl⟩:=hrel;by_cases hlt:k<n
   ·have hkl:k<l.length:=by have:=HNL.out;omega
    have hki:(k:Int)<(l.length:Int):=by omega
    have hk0:(0:Int)<=(k:Int):=by omega
    obtain⟨b2,o2,hb2,hcell⟩:=HC.out k hkl;cases hb2;have hx:l[k]<256:=HLT.out _ (List.getElem_mem hkl);have hsm:=HSM.out k hkl hlt;have HS2:=hid (fP l k hkl);generalize l[k]=z at hcell hx HS2 hsm;generalize beN (l.take k)=m at HS2 hsm ⊢;have HV:=hid (sN m z hsm);clear hsm;go_wp2_with fail
    go_round
    case rel=>exact⟨k+1,by omega,by go_num,by rw[HV.out,HS2.out]⟩
    case measure=>simp[intOf];omega
   ·obtain rfl:k=n:=by omega
    go_wp2_with fail
    go_ret2
    exact⟨rfl,HS.out,Kept.setCell w ⟨b,0,none⟩ _⟩

theorem aHS (b most:Nat)(l:List Nat)(bad:Bool)(w:World)(h:aF w b rb l bad)(hg:¬cH most l)(hmost:most<18446744073709551616) :
  Calls Tryz.prog 29 #[.pointer (some ⟨b,0,none⟩),.int .u64 most] w fun e w'=>e = .returned (.int .u64 0)/\aF w' b rb [] true/\Kept w w' (fun k=>k=b):=by
 have H:=hid h;by_cases h0:l = []
 ·subst h0;clear h hg hmost;go_enter Tryz.func29,Tryz.ntmps29;go_wp2_with fail;refine(pW b bad _ H.out).mono ?_;rintro e w1 ⟨rfl,rfl⟩;go_wp2_with fail;refine(eP b [] bad _ H.out).mono ?_;rintro e w1 ⟨rfl,h1,h2⟩;have H1:=hid h1;have H2:=hid h2;clear h1 h2;go_wp2_with fail;go_ret;exact⟨rfl,H1.out,H2.out⟩
 ·have hne:=List.length_pos_iff.2 h0;have HNE:=hid hne;have hx:l.getD 0 0<256:=by obtain⟨v,_,hB,_⟩:=h.ex;exact hB.aU 0
  have hlen:(l.drop 1).length=l.length-1:=List.length_drop;have hd0:(l.drop 1).getD 0 0=l.getD 1 0:=by simp[List.getD_eq_getElem?_getD]
  by_cases hb:lO (l.getD 0 0) (l.drop 1)
  ·have HB:=hid hb;have HX:=hid hx;clear h hg hmost hb h0 hne hlen hd0;generalize hxx:l.getD 0 0=x at HB HX hx;have HXX:=hid hxx;clear hxx;go_enter Tryz.func29,Tryz.ntmps29;go_wp2_with fail;refine(eL b l bad _ H.out HNE.out).mono ?_;rintro e w1 ⟨rfl,h1,k1⟩;rw[HXX.out];have H1:=hid h1;have K1:=hid k1;clear h1 k1;go_wp2_with fail;refine(oE b x _ bad _ H1.out HB.out HX.out).mono ?_;rintro e w2 ⟨rfl,rfl⟩;go_wp2_with fail;refine(eP b _ bad _ H1.out).mono ?_;rintro e w2 ⟨rfl,h2,k2⟩;have H2:=hid h2;have K2:=hid k2;clear h2 k2;go_wp2_with fail;go_ret;exact⟨rfl,H2.out,K1.out.trans K2.out⟩
  ·have hgm:(most:Int)<((eR l:Nat):Int):=by
    have:¬cK l:=by unfold cK;unfold lO at hb;rw[hlen,hd0]at hb;omega
    have:¬eR l<=most:=fun h=>hg ⟨this,h⟩;omega
   have HB:=hid hb;have HV:Hid (beN ((l.drop 1).take (l.getD 0 0))=eR l):=hid rfl;have HMOST:=hid hmost;clear h hg hb h0 hne hlen hd0 hmost;generalize hxx:l.getD 0 0=x at HB HV hx;have HXX:=hid hxx;clear hxx;go_enter Tryz.func29,Tryz.ntmps29;go_wp2_with fail;refine(eL b l bad _ H.out HNE.out).mono ?_;rintro e w1 ⟨rfl,h1,k1⟩;rw[HXX.out];have H1:=hid h1;have K1:=hid k1;clear h1 k1;go_wp2_with fail;refine(fV b x _ bad _ H1.out HB.out).mono ?_;rintro e w2 ⟨rfl,h2,k2⟩;rw[HV.out];have H2:=hid h2;have K2:=hid k2;clear h2 k2;go_wp2_with fail;refine(eP b _ bad _ H2.out).mono ?_;rintro e w3 ⟨rfl,h3,k3⟩;have H3:=hid h3;have K3:=hid k3;clear h3 k3;go_wp2_with fail;go_ret;exact⟨rfl,H3.out,(K1.out.trans K2.out).trans K3.out⟩

theorem xJ (b most:Nat)(l:List Nat)(bad:Bool)(w:World)(h:aF w b rb l bad)(hg:cH most l)(hmost:most<18446744073709551616) :
  Calls Tryz.prog 29 #[.pointer (some ⟨b,0,none⟩),.int .u64 most] w fun e w'=>e = .returned (.int .u64 (eR l))/\aF w' b rb (l.drop (l.getD 0 0+1)) bad/\Kept w w' (fun k=>k=b):=by
 have H:=hid h;have hnb:=hg.1;have hne:0<l.length:=by unfold cK at hnb;omega
 have HNE:=hid hne;have hx:l.getD 0 0<256:=by obtain⟨v,_,hB,_⟩:=h.ex;exact hB.aU 0
 have hlen:(l.drop 1).length=l.length-1:=List.length_drop;have hd0:(l.drop 1).getD 0 0=l.getD 1 0:=by simp[List.getD_eq_getElem?_getD]
 have hb:¬lO (l.getD 0 0) (l.drop 1):=by unfold lO;unfold cK at hnb;rw[hlen,hd0];omega
 have hgm:((eR l:Nat):Int)<=(most:Int):=by have:=hg.2;omega
 have HB:=hid hb;have HV:Hid (beN ((l.drop 1).take (l.getD 0 0))=eR l):=hid rfl;have HD:Hid ((l.drop 1).drop (l.getD 0 0)=l.drop (l.getD 0 0+1)):=hid (by rw[List.drop_drop];congr 1;omega);have HMOST:=hid hmost;clear h hg hb hne hlen hd0 hmost hnb;generalize hxx:l.getD 0 0=x at HB HV hx HD ⊢;have HXX:=hid hxx;clear hxx;go_enter Tryz.func29,Tryz.ntmps29;go_wp2_with fail;refine(eL b l bad _ H.out HNE.out).mono ?_;rintro e w1 ⟨rfl,h1,k1⟩;rw[HXX.out];have H1:=hid h1;have K1:=hid k1;clear h1 k1;go_wp2_with fail;refine(fV b x _ bad _ H1.out HB.out).mono ?_;rintro e w2 ⟨rfl,h2,k2⟩;rw[HV.out];rw[HD.out]at h2;have H2:=hid h2;have K2:=hid k2;clear h2 k2;go_wp2_with fail;go_ret;exact⟨rfl,H2.out,K1.out.trans K2.out⟩

theorem tE (b:Nat)(m:Int)(l:List Nat)(bad:Bool)(w:World)(h:aF w b rb l bad)(hm0:0<=m)(hmost:m<18446744073709551616) :
  Calls Tryz.prog 29 #[.pointer (some ⟨b,0,none⟩),.int .u64 m] w fun e w'=>e = .returned (.int .u64 (aB m.toNat l))/\aF w' b rb (dX m.toNat l) (bad || jJ m.toNat l)/\Kept w w' (fun k=>k=b):=by
 obtain⟨n,rfl⟩:=Int.eq_ofNat_of_zero_le hm0;rw[Int.toNat_natCast];unfold aB dX jJ;by_cases hg:cH n l
 ·simp only[if_pos hg,Bool.or_false];exact xJ b n l bad w h hg (by omega)
 ·simp only[if_neg hg,Bool.or_true];exact aHS b n l bad w h hg (by omega)
variable {rb:Nat}

theorem aHT (b n:Nat)(l:List Nat)(bad:Bool)(w:World)(h:aF w b rb l bad)(hn:n<=l.length) :
  Calls Tryz.prog 123 #[.pointer (some ⟨b,0,none⟩),.int .i64 n] w fun e w'=>∃v,e = .returned v/\Bytes w' v (l.take n)/\aF w' b rb (l.drop n) bad/\Kept w w' (fun k=>k=b):=by
 have H:=hid h;obtain⟨v,c0,hB,hvb⟩:=h.ex;have f0:=h.free0;obtain⟨v1,hB1,hcut1⟩:=hB.yZ Tryz.u8s n hn;obtain⟨v2,hB2,hv2,hcut2⟩:=hB.pI Tryz.u8s n hn;have hv2':l.drop n = []\/v2.ownBlock=some rb:=by rw[hv2];exact hvb.imp (fun h=>by rw[h];simp) id
 have hlb:(l.length:Int)<=2097152:=by have:=hB.small;omega
 have hn':(n:Int)<=(l.length:Int):=by omega
 have hn0:¬(n:Int)<0:=by omega
 obtain⟨a,c,rfl,_⟩:=hB.shape;obtain⟨a2,c2,rfl,_⟩:=hB2.shape;rw[List.length_drop]at hcut2 hB2 hv2';have HB1:=hid hB1;have HB2:=hid hB2;have HV2:=hid hv2';have hs1:(ints (l.take n)).length<=2097152:=by rw[aE];exact hB1.small
 have HLN:Hid (([]:List Int).length+(ints (l.take n)).length<=4294967296):=hid (by simp only[List.length_nil];omega);have HC0:=hid c0;have HF0:=hid f0;have hbs:=h.lt;have HE:Hid (aT (w.alloc (.cells #[] 5)) w.heap.size 5 .u8 (.slice (some ⟨w.heap.size,0,none⟩) 0 0) []):=hid (aT.empty (heap_alloc_new _ _) (Nat.le_refl _));clear h hB hvb hn hB1 hB2 hv2 hv2' hs1;go_enter Tryz.func123,Tryz.ntmps123
 go_wp2_with (at_builtin;refine aG Tryz.u8s _ _ rfl w.heap.size _ _ [] _ rfl rfl HE.out (HB1.out.rd.alloc _) (by decide) HLN.out (by simp) rfl ?_;intro v3 w1 hown3 hgr3 hat3 hnil3 hbel3;have O1:Hid (aT w1 w.heap.size 5 .u8 v3 (ints (l.take n))):=hid (by simpa using hown3);have B1:Hid (Below w.heap.size w w1):=hid (((Below.refl _ _).alloc (Nat.le_refl _) _).trans hbel3);clear hown3 hgr3 hat3 hnil3 hbel3 c0 f0;have c0:=Below.at B1.out HC0.out H.out.lt;have f0:w1.frozen? ⟨b,0,none⟩=false:=(H.out.below B1.out).free0;have hbs1:b<w1.heap.size:=Nat.lt_of_lt_of_le hbs B1.out.size)
 have O2:Hid (Bytes w1 v3 (l.take n)):=hid (Bytes.fM O1.out HB1.out.lt HB1.out.small);have O3:Hid (v3.ownBlock≠some b):=hid fun e=>by have:=(O1.out.lt b e).1;have:=H.out.lt;omega
 go_ret;refine⟨_,rfl,O2.out.kept (Kept.setCell _ ⟨b,0,none⟩ _) fun k hk e=>O3.out (by rw[hk,e]),(H.out.below B1.out).set (HB2.out.below B1.out) HV2.out,?_⟩;exact(Kept.aM B1.out (S:=fun k=>k=b) (fun k h1 h2=>by omega)).trans (Kept.setCell _ ⟨b,0,none⟩ _)

theorem fU (b:Nat)(l:List Nat)(bad:Bool)(w:World)(h:aF w b rb l bad) :
  Calls Tryz.prog 32 #[.pointer (some ⟨b,0,none⟩)] w fun e w'=>e = .returned (.int .i64 (gR l bad))/\w=w':=by
 obtain⟨v,c0,hB,_⟩:=h.ex;have c1:=h.bad;have hlb:(l.length:Int)<=2097152:=by have:=hB.small;omega
 obtain⟨a,c,rfl,_⟩:=hB.shape;cases bad with
 | true =>
  have HE:Hid (gR l true=20):=hid (by simp[gR]);clear h hB;go_enter Tryz.func32,Tryz.ntmps32;go_wp2_with fail;go_ret;exact⟨by rw[HE.out];rfl,rfl⟩
 | false =>
  by_cases h0:0<l.length
  ·have HE:Hid (gR l false=20):=hid (if_pos (.inr h0));have hl:(0:Int)<(l.length:Int):=by omega
   clear h hB h0;go_enter Tryz.func32,Tryz.ntmps32;go_wp2_with fail;go_ret;exact⟨by rw[HE.out];rfl,rfl⟩
  ·have HE:Hid (gR l false=0):=hid (if_neg fun h=>h.elim (fun h=>by cases h) h0);have hl:¬(0:Int)<(l.length:Int):=by omega
   clear h hB h0;go_enter Tryz.func32,Tryz.ntmps32;go_wp2_with fail;go_ret;exact⟨by rw[HE.out];rfl,rfl⟩

theorem xP (b most:Nat)(l:List Nat)(bad:Bool)(w:World)(h:aF w b rb l bad)(hm:most<=1000000) :
  Calls Tryz.prog 79 #[.pointer (some ⟨b,0,none⟩),.int .i64 most] w fun e w'=>e = .returned (.string (eD (dR most l)))/\aF w' b rb (iO most l) (bad || jE most l)/\Kept w w' (fun k=>k=b):=by
 have C:=hid (tE b most l bad w h (by omega) (by omega));have hm':(most:Int)<=1000000:=by omega
 have hm0:¬(most:Int)<0:=by omega
 have hvm:((aB most l:Nat):Int)<=1000000:=by have:=aD most l;omega
 have HN:Hid ((most:Int).toNat=most):=hid (Int.toNat_natCast _);have hsm:(dX most l).length<=2097152:=by
  obtain⟨v,_,hB,_⟩:=h.ex;have:=vQ most l;have:=hB.small;omega
 have hll:((dX most l).length:Int)<=2097152:=by omega
 clear h hm hsm;by_cases hg:eE most l
 ·have hgi:((aB most l:Nat):Int)<=((dX most l).length:Int):=by unfold eE at hg;omega
  have HV:Hid (dR most l=(dX most l).take (aB most l)/\iO most l=(dX most l).drop (aB most l)/\jE most l=jJ most l):=hid (by simp[dR,iO,jE,hg]);have HGL:Hid (aB most l<=(dX most l).length):=hid hg;clear hg;go_enter Tryz.func79,Tryz.ntmps79;go_wp2_with fail;refine C.out.mono ?_;rintro e w1 ⟨rfl,h1,h2⟩;rw[HN.out]at h1 ⊢;have H1:=hid h1;have H2:=hid h2;obtain⟨v,c0,hB,_⟩:=h1.ex;obtain⟨a,c,rfl,_⟩:=hB.shape;clear h1 h2 hB;go_wp2_with fail;refine(aHT b (aB most l) _ _ _ H1.out HGL.out).mono ?_;rintro e w3 ⟨v3,rfl,hB3,h3,k3⟩;have HB3:=hid hB3;have H3:=hid h3;have K3:=hid k3;clear hB3 h3 k3
  go_wp2_with (refine fN rfl 22 9 5 _ rfl Tryz.underlying22 Tryz.underlying5 Tryz.underlying9 _ _ rfl HB3.out ?_)
  go_ret;exact⟨by rw[HV.out.1];rfl,by rw[HV.out.2.1,HV.out.2.2];exact H3.out,H2.out.trans K3.out⟩
 ·have hgi:((dX most l).length:Int)<((aB most l:Nat):Int):=by unfold eE at hg;omega
  have HV:Hid (dR most l = []/\iO most l = []/\jE most l=true):=hid (by simp[dR,iO,jE,hg]);clear hg;go_enter Tryz.func79,Tryz.ntmps79;go_wp2_with fail;refine C.out.mono ?_;rintro e w1 ⟨rfl,h1,h2⟩;rw[HN.out]at h1 ⊢;have H1:=hid h1;have H2:=hid h2;obtain⟨v,c0,hB,_⟩:=h1.ex;obtain⟨a,c,rfl,_⟩:=hB.shape;clear h1 h2 hB;go_wp2_with fail;refine(eP b _ _ _ H1.out).mono ?_;rintro e w3 ⟨rfl,h3,k3⟩;have H3:=hid h3;have K3:=hid k3;clear h3 k3;go_wp2_with fail;go_ret;exact⟨by rw[HV.out.1];rfl,by rw[HV.out.2.1,HV.out.2.2,Bool.or_true];exact H3.out,H2.out.trans K3.out⟩
variable {rb:Nat}

set_option maxRecDepth 100000
theorem aHP (b:Nat)(l:List Nat)(bad:Bool)(w:World)(h:aF w b rb l bad)(hg:¬cH gZ (unm l)) :
  Calls Tryz.prog 30 #[.pointer (some ⟨b,0,none⟩)] w fun e w'=>e = .returned (.int .i64 0)/\aF w' b rb [] true/\Kept w w' (fun k=>k=b):=by
 have H:=hid h;by_cases h0:l = []
 ·subst h0;clear h hg;go_enter Tryz.func30,Tryz.ntmps30;go_wp2_with fail;refine(pW b bad _ H.out).mono ?_;rintro e w1 ⟨rfl,rfl⟩;go_wp2_with fail;refine(eP b [] bad _ H.out).mono ?_;rintro e w1 ⟨rfl,h1,h2⟩;have H1:=hid h1;have H2:=hid h2;clear h1 h2;go_wp2_with fail;go_ret;exact⟨rfl,H1.out,H2.out⟩
 ·have hne:=List.length_pos_iff.2 h0;have HNE:=hid hne;have hx:l.getD 0 0<256:=by obtain⟨v,_,hB,_⟩:=h.ex;exact hB.aU 0
  have hlen:(l.drop 1).length=l.length-1:=List.length_drop;have hd0:(l.drop 1).getD 0 0=l.getD 1 0:=by simp[List.getD_eq_getElem?_getD]
  by_cases hb:lO (l.getD 0 0 % 128) (l.drop 1)
  ·have HB:=hid hb;have HX:Hid (l.getD 0 0 % 128<256):=hid (by omega);clear h hg hb h0 hne hlen hd0;have hz:(l.getD 0 0:Int).tmod 128=((l.getD 0 0 % 128:Nat):Int):=(Int.ofNat_tmod (l.getD 0 0) 128).symm;have hx2:l.getD 0 0 % 128<128:=Nat.mod_lt _ (by decide);generalize hxx:l.getD 0 0 % 128=x at hx2 hz HB HX hx;generalize hzz:l.getD 0 0=z at hx hz;have HXX:=hid hxx;clear hxx;go_enter Tryz.func30,Tryz.ntmps30;go_wp2_with fail;refine(eL b l bad _ H.out HNE.out).mono ?_;rintro e w1 ⟨rfl,h1,k1⟩;rw[hzz];have H1:=hid h1;have K1:=hid k1;clear h1 k1;go_wp2_with fail;refine(oE b x _ bad _ H1.out HB.out HX.out).mono ?_;rintro e w2 ⟨rfl,rfl⟩;go_wp2_with fail;refine(eP b _ bad _ H1.out).mono ?_;rintro e w2 ⟨rfl,h2,k2⟩;have H2:=hid h2;have K2:=hid k2;clear h2 k2;go_wp2_with fail;go_ret;exact⟨rfl,H2.out,K1.out.trans K2.out⟩
  ·have hgm:(9223372036854775807:Int)<((eR (unm l):Nat):Int):=by
    have:¬cK (unm l):=by unfold cK;unfold lO at hb;rw[hlen,hd0]at hb;rw[jQ,qD,jV];omega
    have:¬eR (unm l)<=gZ:=fun h=>hg ⟨this,h⟩;unfold gZ at this;omega
   have HB:=hid hb;have HV:Hid (beN ((l.drop 1).take (l.getD 0 0 % 128))=eR (unm l)):=hid (by unfold eR;rw[gW 0,jQ]);clear h hg hb h0 hne hlen hd0;have hz:(l.getD 0 0:Int).tmod 128=((l.getD 0 0 % 128:Nat):Int):=(Int.ofNat_tmod (l.getD 0 0) 128).symm;have hx2:l.getD 0 0 % 128<128:=Nat.mod_lt _ (by decide);generalize hxx:l.getD 0 0 % 128=x at hx2 hz HB HV hx;generalize hzz:l.getD 0 0=z at hx hz;have HXX:=hid hxx;clear hxx;go_enter Tryz.func30,Tryz.ntmps30;go_wp2_with fail;refine(eL b l bad _ H.out HNE.out).mono ?_;rintro e w1 ⟨rfl,h1,k1⟩;rw[hzz];have H1:=hid h1;have K1:=hid k1;clear h1 k1;go_wp2_with fail;refine(fV b x _ bad _ H1.out HB.out).mono ?_;rintro e w2 ⟨rfl,h2,k2⟩;rw[HV.out];have H2:=hid h2;have K2:=hid k2;clear h2 k2;go_wp2_with fail;refine(eP b _ bad _ H2.out).mono ?_;rintro e w3 ⟨rfl,h3,k3⟩;have H3:=hid h3;have K3:=hid k3;clear h3 k3;go_wp2_with fail;go_ret;exact⟨rfl,H3.out,(K1.out.trans K2.out).trans K3.out⟩

theorem xH (b:Nat)(l:List Nat)(bad:Bool)(w:World)(h:aF w b rb l bad)(hg:cH gZ (unm l)) :
  Calls Tryz.prog 30 #[.pointer (some ⟨b,0,none⟩)] w fun e w'=>e = .returned (.int .i64 (if decide ((128:Int)<=(l.getD 0 0:Nat)) then -1-(eR (unm l):Int) else eR (unm l)))/\aF w' b rb (l.drop (l.getD 0 0 % 128+1)) bad/\Kept w w' (fun k=>k=b):=by
 have H:=hid h;have hnb:=hg.1;have hne:0<l.length:=by unfold cK at hnb;rw[jQ,qD,jV]at hnb;omega
 have HNE:=hid hne;have hx:l.getD 0 0<256:=by obtain⟨v,_,hB,_⟩:=h.ex;exact hB.aU 0
 have hlen:(l.drop 1).length=l.length-1:=List.length_drop;have hd0:(l.drop 1).getD 0 0=l.getD 1 0:=by simp[List.getD_eq_getElem?_getD]
 have hb:¬lO (l.getD 0 0 % 128) (l.drop 1):=by unfold lO;unfold cK at hnb;rw[hlen,hd0];rw[jQ,qD,jV]at hnb;omega
 have hgm:((eR (unm l):Nat):Int)<=9223372036854775807:=by have:=hg.2;unfold gZ at this;omega
 have HB:=hid hb;have HV:Hid (beN ((l.drop 1).take (l.getD 0 0 % 128))=eR (unm l)):=hid (by unfold eR;rw[gW 0,jQ]);have HD:Hid ((l.drop 1).drop (l.getD 0 0 % 128)=l.drop (l.getD 0 0 % 128+1)):=hid (by rw[List.drop_drop];congr 1;omega);clear h hg hb hne hlen hd0 hnb;have hz:(l.getD 0 0:Int).tmod 128=((l.getD 0 0 % 128:Nat):Int):=(Int.ofNat_tmod (l.getD 0 0) 128).symm;have hx2:l.getD 0 0 % 128<128:=Nat.mod_lt _ (by decide);generalize hxx:l.getD 0 0 % 128=x at hx2 hz HB HV hx HD ⊢;generalize hzz:l.getD 0 0=z at hx hz ⊢;have HXX:=hid hxx;clear hxx;have hnn:(0:Int)<=((eR (unm l):Nat):Int):=Int.natCast_nonneg _;generalize eR (unm l)=n at hgm HV hnn ⊢;have km:(128:Int)<=(z:Int)\/(z:Int)<128:=by omega
 rcases km with m1|m1
 ·rw[if_pos (decide_eq_true m1)];go_enter Tryz.func30,Tryz.ntmps30;go_wp2_with fail;refine(eL b l bad _ H.out HNE.out).mono ?_;rintro e w1 ⟨rfl,h1,k1⟩;rw[hzz];have H1:=hid h1;have K1:=hid k1;clear h1 k1;go_wp2_with fail;refine(fV b x _ bad _ H1.out HB.out).mono ?_;rintro e w2 ⟨rfl,h2,k2⟩;rw[HV.out];rw[HD.out]at h2;have H2:=hid h2;have K2:=hid k2;clear h2 k2;go_wp2_with fail;go_ret;exact⟨by first|rfl|(simp;done),H2.out,K1.out.trans K2.out⟩
 ·rw[if_neg (fun h=>absurd (of_decide_eq_true h) (Int.not_le.2 m1))];go_enter Tryz.func30,Tryz.ntmps30;go_wp2_with fail;refine(eL b l bad _ H.out HNE.out).mono ?_;rintro e w1 ⟨rfl,h1,k1⟩;rw[hzz];have H1:=hid h1;have K1:=hid k1;clear h1 k1;go_wp2_with fail;refine(fV b x _ bad _ H1.out HB.out).mono ?_;rintro e w2 ⟨rfl,h2,k2⟩;rw[HV.out];rw[HD.out]at h2;have H2:=hid h2;have K2:=hid k2;clear h2 k2;go_wp2_with fail;go_ret;exact⟨by first|rfl|(simp;done),H2.out,K1.out.trans K2.out⟩

theorem aHO (b:Nat)(l:List Nat)(bad:Bool)(w:World)(h:aF w b rb l bad) :
  Calls Tryz.prog 30 #[.pointer (some ⟨b,0,none⟩)] w fun e w'=>e = .returned (.int .i64 (eU l))/\aF w' b rb (uK l) (bad || wU l)/\Kept w w' (fun k=>k=b):=by
 unfold eU uK wU sM aB dX jJ;by_cases hg:cH gZ (unm l)
 ·simp only[if_pos hg,Bool.or_false];rw[gW,jQ];exact xH b l bad w h hg
 ·simp only[if_neg hg,Bool.or_true];exact aHP b l bad w h hg
end Go.Proofs.YtgeihgombjbkbaaGreat
namespace Go.Proofs.YtgeihgombjbkbaaGreat
open Go.RowKit Go.Maps Go.Proofs.Own

structure aY where
 f:Int
 t:Int
deriving DecidableEq
def spV (s:aY):List Value:=[.int .i64 s.f,.int .i64 s.t]
def fJ (s:aY):Bool:=decide (0<=s.f)&&decide (s.f<s.t)&&decide (s.t<=1125899906842624)
def rowE:Int->List aY->Bool
 | _,[]=>true
 | e,s::l=>fJ s&&decide (e<=s.f)&&rowE s.t l
def bB (l:List aY):Int:=if 32<l.length then 21 else if rowE 0 l then 0 else 2
theorem pY {e:Int}{l:List aY}{j:Nat}(h:j<l.length):rowE e (l.drop j)=(fJ l[j]&&decide (e<=l[j].f)&&rowE l[j].t (l.drop (j+1))):=by
 rw[List.drop_eq_getElem_cons h,rowE]
end Go.Proofs.YtgeihgombjbkbaaGreat
namespace Go.Proofs.YtgeihgombjbkbaaGreat
open Go.Lib (hid)
open Go.RowKit Go.Maps Go.Proofs.Own

theorem aJ {n0:Nat}{w w':World}{a:Addr}{v:Value}(hb:Below n0 w w')(h:w.cell? a=some v)(ha:a.block<n0):w'.cell? a=some v:=by
 rw[World.cell?_of_block (w':=w') (w:=w) (a:=a) (hb.block a.block ha)];exact h
theorem dP {w w1 w2:World}{o:Obj}(h:Below w.heap.size w w1)(h2:Below (w1.alloc o).heap.size (w1.alloc o) w2):Below w.heap.size w w2 :=
 (h.alloc h.size o).trans (h2.mono (by have:=h.size;simp only[World.size_alloc];omega))
theorem kP (f t:Int)(w:World):Calls Tryz.prog 424 #[.agg #[.int .i64 f,.int .i64 t]] w fun e w'=>e = .returned (.bool (fJ ⟨f,t⟩))/\Below w.heap.size w w':=by
 by_cases h1:0<=f
 ·by_cases h2:f<t
  ·by_cases h3:t<=1125899906842624
   ·have HE:Hid (fJ ⟨f,t⟩=true):=hid (by unfold fJ;simp[h1,h2,h3]);go_enter Tryz.func424,Tryz.ntmps424;go_wp2_with fail;go_ret;exact⟨by rw[HE.out];rfl,(Below.refl _ _).alloc (Nat.le_refl _) _⟩
   ·have HE:Hid (fJ ⟨f,t⟩=false):=hid (by unfold fJ;simp[h3]);go_enter Tryz.func424,Tryz.ntmps424;go_wp2_with fail;go_ret;exact⟨by rw[HE.out];rfl,(Below.refl _ _).alloc (Nat.le_refl _) _⟩
  ·have HE:Hid (fJ ⟨f,t⟩=false):=hid (by unfold fJ;simp[h2]);go_enter Tryz.func424,Tryz.ntmps424;go_wp2_with fail;go_ret;exact⟨by rw[HE.out];rfl,(Below.refl _ _).alloc (Nat.le_refl _) _⟩
 ·have HE:Hid (fJ ⟨f,t⟩=false):=hid (by unfold fJ;simp[h1]);go_enter Tryz.func424,Tryz.ntmps424;go_wp2_with fail;go_ret;exact⟨by rw[HE.out];rfl,(Below.refl _ _).alloc (Nat.le_refl _) _⟩
theorem aV.sp {w:World}{a:Option Addr}{n c:Nat}{l:List aY}(h:aV w 2 (.slice a n c) (l.map spV)){j:Nat}(hj:j<l.length):∃b o,a=some ⟨b,o,none⟩/\b<w.heap.size/\w.cell? ⟨b,o+j*2,none⟩=some (.int .i64 l[j].f)/\w.cell? ⟨b,o+j*2+1,none⟩=some (.int .i64 l[j].t):=by
 obtain⟨b,o,e,hb,hc⟩:=h.at (j:=j) (by simpa using hj);rw[List.getElem_map]at hc;exact⟨b,o,e,hb,hc 0 _ rfl,hc 1 _ rfl⟩
theorem sX (l:List aY)(a:Option Addr)(n c:Nat)(w:World)(hr:aV w 2 (.slice a n c) (l.map spV))(hln:l.length=n)(hl:n<=maxLen) :
  Calls Tryz.prog 341 #[.slice a n c] w fun e w'=>e = .returned (.int .i64 (bB l))/\Below w.heap.size w w':=by
 unfold maxLen at hl;have HR:=hid hr;have HL:=hid hln;clear hr hln;by_cases h32:n<=32
 ·have b1:¬(32:Int)<(n:Int):=by omega
  have HE:Hid (bB l=if rowE 0 l then 0 else 2):=hid (by unfold bB;rw[if_neg (by have:=HL.out;omega)]);go_enter Tryz.func341,Tryz.ntmps341;go_wp2_with fail
  go_loopw [3,11] (fun e i wr=>∃(j:Nat) (en:Int),e = .int .i64 en/\i = .int .i64 j/\j<=n/\rowE 0 l=rowE en (l.drop j)/\Below w.heap.size w wr) (fun _ i _=>n-(intOf i).toNat)
  case atStart=>exact⟨0,0,rfl,rfl,Nat.zero_le _,rfl,Below.refl _ _⟩
  case round =>
   obtain⟨j,en,rfl,rfl,hj,hrow,hb⟩:=hrel;have HB:=hid hb;have HW:=hid hrow;clear hb hrow;by_cases hlt:j<n
   ·have hjl:j<l.length:=by have:=HL.out;omega
    obtain⟨b,o,rfl,hbl,x0,x1⟩:=HR.out.sp hjl;have x0:=aJ HB.out x0 hbl;have x1:=aJ HB.out x1 hbl;have HD:Hid (rowE 0 l=(fJ l[j]&&decide (en<=l[j].f)&&rowE l[j].t (l.drop (j+1)))):=hid (by rw[HW.out,pY hjl]);generalize l[j]=s at x0 x1 HD;obtain⟨f,t⟩:=s;simp only at x0 x1 HD;cases hok:fJ ⟨f,t⟩ with
    | true =>
     by_cases hen:f<en
     ·have HE2:Hid (bB l=2):=hid (by rw[HE.out,HD.out,hok,decide_eq_false (show ¬en<=f by omega)];rfl);go_wp2_with fail;refine(kP f t _).mono ?_;rintro e w1 ⟨rfl,hb1⟩;rw[hok];have c0:=Below.at hb1 (show World.cell? _ ⟨wr.heap.size,0,none⟩=some (.int .i64 f) by go_cell) (by simp);have BB:Hid (Below w.heap.size w w1):=hid (dP HB.out hb1);clear hb1;go_wp2_with fail;go_ret;exact⟨by rw[HE2.out];rfl,BB.out⟩
     ·have HD2:Hid (rowE 0 l=rowE t (l.drop (j+1))):=hid (by rw[HD.out,hok,decide_eq_true (show en<=f by omega)];rfl);go_wp2_with fail;refine(kP f t _).mono ?_;rintro e w1 ⟨rfl,hb1⟩;rw[hok];have c0:=Below.at hb1 (show World.cell? _ ⟨wr.heap.size,0,none⟩=some (.int .i64 f) by go_cell) (by simp);have c1:=Below.at hb1 (show World.cell? _ ⟨wr.heap.size,1,none⟩=some (.int .i64 t) by go_cell) (by simp);have BB:Hid (Below w.heap.size w w1):=hid (dP HB.out hb1);clear hb1;go_wp2_with fail
      go_roundw
      case rel=>exact⟨j+1,t,rfl,by first|rfl|go_num,by omega,HD2.out,BB.out⟩
      all_goals (show n-((j:Int)+1).toNat<n-((j:Int)).toNat;omega)
    | false =>
     have HE2:Hid (bB l=2):=hid (by rw[HE.out,HD.out,hok];simp);go_wp2_with fail;refine(kP f t _).mono ?_;rintro e w1 ⟨rfl,hb1⟩;rw[hok];have BB:Hid (Below w.heap.size w w1):=hid (dP HB.out hb1);clear hb1;go_wp2_with fail;go_ret;exact⟨by rw[HE2.out];rfl,BB.out⟩
   ·obtain rfl:j=n:=by omega
    have HE2:Hid (bB l=0):=hid (by rw[HE.out,HW.out,List.drop_eq_nil_of_le (by have:=HL.out;omega)];rfl);go_wp2_with fail;go_ret;exact⟨by rw[HE2.out];rfl,HB.out⟩
 ·have b1:(32:Int)<(n:Int):=by omega
  have HE:Hid (bB l=21):=hid (by unfold bB;rw[if_pos (by have:=HL.out;omega)]);go_enter Tryz.func341,Tryz.ntmps341;go_wp2_with fail;go_ret;exact⟨by rw[HE.out];rfl,Below.refl _ _⟩
theorem fB {α:Type}{l m:List α}{j:Nat}(h:l.take j=m.take j)(hl:j<l.length)(hm:j<m.length)(e:l[j]=m[j]):l.take (j+1)=m.take (j+1):=by
 rw[List.take_succ_eq_append_getElem hl,List.take_succ_eq_append_getElem hm,h,e]
theorem pR (f t f2 t2:Int)(w:World):Calls Tryz.prog 193 #[.agg #[.int .i64 f,.int .i64 t],.agg #[.int .i64 f2,.int .i64 t2]] w fun e w'=>e = .returned (.bool (decide (f=f2/\t=t2)))/\Below w.heap.size w w':=by
 by_cases h1:f=f2
 ·by_cases h2:t=t2
  ·have HE:Hid (decide (f=f2/\t=t2)=true):=hid (decide_eq_true ⟨h1,h2⟩);subst h1 h2;go_enter Tryz.func193,Tryz.ntmps193;go_wp2_with fail;go_ret;exact⟨by first|(rw[HE.out];rfl)|rfl,((Below.refl _ _).alloc (Nat.le_refl _) _).alloc (by simp) _⟩
  ·have HE:Hid (decide (f=f2/\t=t2)=false):=hid (decide_eq_false fun h=>h2 h.2);clear h1;go_enter Tryz.func193,Tryz.ntmps193;go_wp2_with fail;go_ret;exact⟨by first|(rw[HE.out];rfl)|rfl,((Below.refl _ _).alloc (Nat.le_refl _) _).alloc (by simp) _⟩
 ·have HE:Hid (decide (f=f2/\t=t2)=false):=hid (decide_eq_false fun h=>h1 h.1);go_enter Tryz.func193,Tryz.ntmps193;go_wp2_with fail;go_ret;exact⟨by first|(rw[HE.out];rfl)|rfl,((Below.refl _ _).alloc (Nat.le_refl _) _).alloc (by simp) _⟩
theorem aHs (l m:List aY)(a a2:Option Addr)(n n2 c c2:Nat)(w:World)(hr:aV w 2 (.slice a n c) (l.map spV))(hr2:aV w 2 (.slice a2 n2 c2) (m.map spV))(hln:l.length=n)(hln2:m.length=n2)(hl:n<=maxLen) :
  Calls Tryz.prog 192 #[.slice a n c,.slice a2 n2 c2,.func (.func 193) #[] #[]] w fun e w'=>e = .returned (.bool (decide (l=m)))/\Below w.heap.size w w':=by
 unfold maxLen at hl;have HR:=hid hr;have HL:=hid hln;have HR2:=hid hr2;have HL2:=hid hln2;clear hr hln hr2 hln2;by_cases hnn:n=n2
 ·subst hnn;go_enter Tryz.func192,Tryz.ntmps192;go_wp2_with fail
  go_loopw [17] (fun i wr=>∃(j:Nat),i = .int .i64 j/\j<=n/\l.take j=m.take j/\Below w.heap.size w wr) (fun i _=>n-(intOf i).toNat)
  case atStart=>exact⟨0,rfl,Nat.zero_le _,rfl,Below.refl _ _⟩
  case round =>
   obtain⟨j,rfl,hj,hrow,hb⟩:=hrel;have HB:=hid hb;have HW:=hid hrow;clear hb hrow;by_cases hlt:j<n
   ·have hjl:j<l.length:=by have:=HL.out;omega
    have hjm:j<m.length:=by have:=HL2.out;omega
    obtain⟨b,o,rfl,hbl,x0,x1⟩:=HR.out.sp hjl;obtain⟨b2,o2,rfl,hbl2,y0,y1⟩:=HR2.out.sp hjm;have x0:=aJ HB.out x0 hbl;have x1:=aJ HB.out x1 hbl;have y0:=aJ HB.out y0 hbl2;have y1:=aJ HB.out y1 hbl2;have y0:=fun o=>aL y0 o;have y1:=fun o=>aL y1 o;by_cases he:l[j]=m[j]
    ·have HT:Hid (l.take (j+1)=m.take (j+1)):=hid (fB HW.out hjl hjm he);rw[<- he]at y0 y1;generalize l[j]=s at x0 x1 y0 y1;obtain⟨f,t⟩:=s;simp only at x0 x1 y0 y1;go_wp2_with fail;refine(pR f t f t _).mono ?_;rintro e w1 ⟨rfl,hb1⟩;rw[decide_eq_true (⟨rfl,rfl⟩:f=f/\t=t)];have BB:Hid (Below w.heap.size w w1):=hid (dP (HB.out.alloc HB.out.size _) hb1);clear hb1;go_wp2_with fail
     go_roundw
     case rel=>exact⟨j+1,by first|rfl|go_num,by omega,HT.out,BB.out⟩
     all_goals (show n-((j:Int)+1).toNat<n-((j:Int)).toNat;omega)
    ·have HE:Hid (decide (l=m)=false):=hid (decide_eq_false fun h=>he (by subst h;rfl));generalize l[j]=s at x0 x1 he;generalize m[j]=s2 at y0 y1 he;obtain⟨f,t⟩:=s;obtain⟨f2,t2⟩:=s2;simp only at x0 x1 y0 y1;have HN:Hid (decide (f=f2/\t=t2)=false):=hid (decide_eq_false fun h=>he (by rw[h.1,h.2]));clear he;go_wp2_with fail;refine(pR f t f2 t2 _).mono ?_;rintro e w1 ⟨rfl,hb1⟩;rw[HN.out];have BB:Hid (Below w.heap.size w w1):=hid (dP (HB.out.alloc HB.out.size _) hb1);clear hb1;go_wp2_with fail;go_ret;exact⟨by rw[HE.out];rfl,BB.out⟩
   ·obtain rfl:j=n:=by omega
    have HE:Hid (decide (l=m)=true):=hid (decide_eq_true (by
     have:=HW.out
     rwa [List.take_of_length_le (by rw[HL.out];exact Nat.le_refl _),List.take_of_length_le (by rw[HL2.out];exact Nat.le_refl _)]at this))
    go_wp2_with fail;go_ret;exact⟨by rw[HE.out];rfl,HB.out⟩
 ·have HE:Hid (decide (l=m)=false):=hid (decide_eq_false fun h=>hnn (by rw[<- HL.out,<- HL2.out,h]));have hni:¬(n:Int)=(n2:Int):=by omega
  go_enter Tryz.func192,Tryz.ntmps192;go_wp2_with fail;go_ret;exact⟨by rw[HE.out];rfl,Below.refl _ _⟩

theorem oG (l m:List aY)(a a2:Option Addr)(n n2 c c2:Nat)(w:World)(hr:aV w 2 (.slice a n c) (l.map spV))(hr2:aV w 2 (.slice a2 n2 c2) (m.map spV))(hln:l.length=n)(hln2:m.length=n2)(hl:n<=maxLen) :
  Calls Tryz.prog 184 #[.slice a n c,.slice a2 n2 c2] w fun e w'=>e = .returned (.bool (decide (l=m)))/\Below w.heap.size w w':=by
 unfold maxLen at hl;have HR:=hid hr;have HL:=hid hln;have HR2:=hid hr2;have HL2:=hid hln2;clear hr hln hr2 hln2;by_cases hnn:n=n2
 ·subst hnn;go_enter Tryz.func184,Tryz.ntmps184;go_wp2_with fail
  go_loopw [5] (fun i wr=>∃(j:Nat),i = .int .i64 j/\j<=n/\l.take j=m.take j/\Below w.heap.size w wr) (fun i _=>n-(intOf i).toNat)
  case atStart=>exact⟨0,rfl,Nat.zero_le _,rfl,Below.refl _ _⟩
  case round =>
   obtain⟨j,rfl,hj,hrow,hb⟩:=hrel;have HB:=hid hb;have HW:=hid hrow;clear hb hrow;by_cases hlt:j<n
   ·have hjl:j<l.length:=by have:=HL.out;omega
    have hjm:j<m.length:=by have:=HL2.out;omega
    obtain⟨b,o,rfl,hbl,x0,x1⟩:=HR.out.sp hjl;obtain⟨b2,o2,rfl,hbl2,y0,y1⟩:=HR2.out.sp hjm;have x0:=aJ HB.out x0 hbl;have x1:=aJ HB.out x1 hbl;have y0:=aJ HB.out y0 hbl2;have y1:=aJ HB.out y1 hbl2;by_cases he:l[j]=m[j]
    ·have HT:Hid (l.take (j+1)=m.take (j+1)):=hid (fB HW.out hjl hjm he);rw[<- he]at y0 y1;generalize l[j]=s at x0 x1 y0 y1;obtain⟨f,t⟩:=s;simp only at x0 x1 y0 y1;go_wp2_with fail
     go_quiet (fail)
     go_wp2_with fail
     go_roundw
     case rel=>exact⟨j+1,by first|rfl|go_num,by omega,HT.out,HB.out.trans ((Below.drewN _ _).mono HB.out.size)⟩
     all_goals (show n-((j:Int)+1).toNat<n-((j:Int)).toNat;omega)
    ·have HE:Hid (decide (l=m)=false):=hid (decide_eq_false fun h=>he (by subst h;rfl));generalize l[j]=s at x0 x1 he;generalize m[j]=s2 at y0 y1 he;obtain⟨f,t⟩:=s;obtain⟨f2,t2⟩:=s2;simp only at x0 x1 y0 y1;have HN:Hid ((f==f2&&t==t2)=false):=hid (by
      rw[Bool.eq_false_iff];intro h;simp only[Bool.and_eq_true,beq_iff_eq]at h;exact he (by rw[h.1,h.2]))
     by_cases h1:f=f2
     ·have h2:¬t=t2:=fun e=>he (by rw[h1,e]);have bx:(f==f2)=true:=by simp[h1]
      have by':(t==t2)=false:=by simp[h2]
      clear he h1 h2;go_wp2_with fail
      go_quiet (fail)
      go_wp2_with fail;go_ret;exact⟨by rw[HE.out];rfl,HB.out.trans ((Below.drewN _ _).mono HB.out.size)⟩
     ·have bx:(f==f2)=false:=by simp[h1]
      clear he h1;go_wp2_with fail
      go_quiet (fail)
      go_wp2_with fail;go_ret;exact⟨by rw[HE.out];rfl,HB.out.trans ((Below.drewN _ _).mono HB.out.size)⟩
   ·obtain rfl:j=n:=by omega
    have HE:Hid (decide (l=m)=true):=hid (decide_eq_true (by
     have:=HW.out
     rwa [List.take_of_length_le (by rw[HL.out];exact Nat.le_refl _),List.take_of_length_le (by rw[HL2.out];exact Nat.le_refl _)]at this))
    go_wp2_with fail;go_ret;exact⟨by rw[HE.out];rfl,HB.out⟩
 ·have HE:Hid (decide (l=m)=false):=hid (decide_eq_false fun h=>hnn (by rw[<- HL.out,<- HL2.out,h]));have hni:¬(n:Int)=(n2:Int):=by omega
  go_enter Tryz.func184,Tryz.ntmps184;go_wp2_with fail;go_ret;exact⟨by rw[HE.out];rfl,Below.refl _ _⟩
