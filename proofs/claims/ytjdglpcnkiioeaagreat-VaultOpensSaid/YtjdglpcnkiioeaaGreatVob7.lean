/- For vltopens_law_holds. -/
import Derived.Laws.BytesArg
import Derived.Lib.ConvBytes
import Derived.Test.YtjdglpcnkiioeaaGreatVob6
set_option maxHeartbeats 16000000
set_option maxRecDepth 100000
namespace Go.Proofs.YtjdglpcnkiioeaaGreat
open Go.RowKit Go.Maps Go.Proofs.Own

def bX (l:List Nat):ByteArray:=⟨(l.map UInt8.ofNat).toArray⟩
def aP (s:ByteArray):List Nat:=s.data.toList.map UInt8.toNat
theorem dO {l:List Nat}(h:∀c ∈ l,c<256):aP (bX l)=l:=by
 have h1:aP (bX l)=(l.map UInt8.ofNat).map UInt8.toNat:=rfl;rw[h1,List.map_map]
 conv=>rhs;rw[<- List.map_id l]
 exact List.map_congr_left fun c hc=>by
  have:=h c hc;show (UInt8.ofNat c).toNat=c;rw[UInt8.toNat_ofNat'];exact Nat.mod_eq_of_lt this
theorem aCX (s:ByteArray):bX (aP s)=s:=by
 have:(s.data.toList.map UInt8.toNat).map UInt8.ofNat=s.data.toList:=by
  rw[List.map_map]
  conv=>rhs;rw[<- List.map_id s.data.toList]
  exact List.map_congr_left fun c _=>UInt8.ofNat_toNat
 simp[bX,aP,this]
theorem yS {l m:List Nat}(hl:∀c ∈ l,c<256)(hm:∀c ∈ m,c<256)(h:bX l=bX m):l=m:=by
 rw[<- dO hl,<- dO hm,h]
theorem aAD (s:ByteArray):∀c ∈ aP s,c<256:=by
 intro c hc;simp only[aP,List.mem_map]at hc;obtain⟨x,_,rfl⟩:=hc;exact UInt8.toNat_lt x
theorem cV (s:ByteArray):(aP s).length=s.size:=by rw[aP,List.length_map];rfl
theorem cH (l:List Nat):(bX l).size=l.length:=by show (l.map UInt8.ofNat).toArray.size=_;rw[List.size_toArray,List.length_map]
theorem yT (l:List Nat):strOfNums (ints l)=bX l:=by
 unfold strOfNums ints bX;rw[List.map_map]
 congr 2

theorem Bytes.str {P:Program}{src dst e:TypeId}(hs:P.underlying src=some (.slice e))(he:P.underlying e=some (.int .u8))(hd:P.underlying dst=some .string){w:World}{v:Value}{l:List Nat}(h:Bytes w v l) :
  (convert src dst v).run P w = .ok (.string (bX l)) w:=by
 obtain⟨a,c,rfl,_⟩:=h.shape;cases a with
 | none =>
  obtain⟨_,_,hc⟩:=h.cells;have:l = []:=by
   cases l with
   | nil=>rfl
   | cons x l=>obtain⟨b,o,e,_⟩:=hc 0 (by simp);cases e
  subst this;rw[run_convert_bytes_nil w src e hs he _ _ dst hd];rfl
 | some ad =>
  obtain⟨_,_,hc⟩:=h.cells;by_cases h0:l = []
  ·subst h0;rw[run_convert_bytes_string w src dst e _ _ _ hs he hd];have hl:=run_loadCells_list (P:=P) w ad [] (by simp);rw[show ([]:List Nat).length=([]:List Value).length from rfl];rw[run_bytesToString w ad _ c [] (by simpa using hl)];rfl
  ·obtain⟨b,o,e0,_⟩:=hc 0 (List.length_pos_iff.2 h0);cases e0;rw[<- yT];refine run_convert_bytes_arg w src e hs he b o _ c (ints l) (by rw[aS]) (fun i hi=>?_) dst hd;obtain⟨b',o',e1,h1⟩:=hc i hi;cases e1;rw[h1];simp[ints,List.getD_eq_getElem?_getD,hi]
theorem mJ {P:Program}(w:World)(src dst e:TypeId)(s:ByteArray)(hs:P.underlying src=some .string)(hd:P.underlying dst=some (.slice e))(he:P.underlying e=some (.int .u8))(hsz:s.size<=2097152) :
  ∃v w',(convert src dst (.string s)).run P w = .ok v w'/\Bytes w' v (aP s)/\Below w.heap.size w w'/\v.ownBlock=some w.heap.size:=by
 have hge:=grownCap_ge w s.size 0 e;refine⟨_,_,run_bytes_of_string w src dst e s hs hd he,?_,((Below.refl _ _).drew).alloc (Nat.le_refl _) _,rfl⟩;generalize grownCap w s.size 0 e=c at hge;refine⟨⟨_,_,by rw[cV],by rw[cV];exact hge⟩,⟨_,_,by rw[aS,cV],fun j hj=>⟨w.heap.size,0,rfl,?_⟩⟩,aAD s,by rw[cV];exact hsz⟩;have hj':j<s.data.size:=by rw[aS,cV]at hj;exact hj
 have hb:(w.drew.alloc (.cells (bytesRow s c) e ((bytesRow s c).size,(bytesRow s c).size+1))).heap[w.heap.size]? = some (.cells (bytesRow s c) e ((bytesRow s c).size,(bytesRow s c).size+1)):=heap_alloc_new w.drew _;rw[ints_at];have h1:(bytesRow s c)[j]? = some (.int .u8 (s.data[j].toNat:Nat)):=by
  unfold bytesRow;rw[Array.getElem?_append_left (by simpa using hj')];rw[Array.getElem?_map,Array.getElem?_eq_getElem hj'];rfl
 have h2:(aP s)[j]'(by rw[cV];exact hj')=s.data[j].toNat:=by simp[aP]
 rw[h2,Nat.zero_add];simp only[World.cell?];rw[hb];exact h1

theorem aEd {a b:ByteArray}(h:a≠b):(a.toList==b.toList)=false:=by
 refine beq_eq_false_iff_ne.2 fun e=>h ?_;rw[ByteArray.toList_eq,ByteArray.toList_eq]at e;cases a;cases b
 congr
 exact Array.toList_inj.1 e
theorem tZ {a b:ByteArray}(h:a=b):(a.toList==b.toList)=true:=by
 subst h;exact beq_iff_eq.2 rfl

section
variable {P:Program} {ops:Array Oper} {rest:List Oper} {o:Oper} {a:Act} {Q:Exit->Act->World->Prop} {w:World}
theorem eA (hg:o.guard=none)(src dst e:TypeId)(x:Operand)(hop:o.op=Op.convert src dst x)(hs:P.underlying src=some .string)(hd:P.underlying dst=some (.slice e))(he:P.underlying e=some (.int .u8))
  (s:ByteArray) (hx:a.eval x = .string s) (hsz:s.size<=2097152)
  (hK:∀v w',Bytes w' v (aP s)->Below w.heap.size w w'->v.ownBlock=some w.heap.size->wpList P ops Q rest (a.put o.dst v) w'):wpList P ops Q (o::rest) a w:=by
 refine wpList_plain hg fun K' hK'=>?_;obtain⟨v,w',hrun,h1,h2,h3⟩:=mJ (P:=P) w src dst e s hs hd he hsz;unfold Oper.wp;simp[execOp,hop,hx,hrun,Result.andThen];exact hK' _ _ (hK v w' h1 h2 h3)
theorem iC (hg:o.guard=none)(src dst e:TypeId)(x:Operand)(hop:o.op=Op.convert src dst x)(hs:P.underlying src=some (.slice e))(he:P.underlying e=some (.int .u8))(hd:P.underlying dst=some .string)
  (v:Value) (l:List Nat) (hx:a.eval x=v) (hB:Bytes w v l)
  (hK:wpList P ops Q rest (a.put o.dst (.string (bX l))) w):wpList P ops Q (o::rest) a w:=by
 refine wpList_plain hg fun K' hK'=>?_;have hrun:=hB.str hs he hd;unfold Oper.wp;simp[execOp,hop,hx,hrun,Result.andThen];exact hK' _ _ hK
end
end Go.Proofs.YtjdglpcnkiioeaaGreat
namespace Go.Proofs.YtjdglpcnkiioeaaGreat
open Go.Lib (hid)
open Go.RowKit Go.Maps Go.Proofs.Own

def wW (t k n:Int):Bool:=decide (1<=t)&&(decide (t<=1152921504606846976)&&(decide (1<=k)&&(decide (k<=3)&&decide (n<=4096))))
theorem qX (t k:Int)(dv:Value)(d:List Nat)(w:World)(hB:Bytes w dv d) :
  Calls Tryz.prog 135 #[.agg #[.int .u64 t,.int .i64 k,dv]] w fun e w'=>e = .returned (.bool (wW t k d.length))/\Below w.heap.size w w':=by
 obtain⟨a,c,rfl,_⟩:=hB.shape;have hs:=hB.small;clear hB;by_cases h1:1<=t<;>by_cases h2:t<=1152921504606846976<;>by_cases h3:1<=k<;>by_cases h4:k<=3<;>by_cases h5:(d.length:Int)<=4096
 all_goals try (exfalso;omega)
 all_goals
  have HV:Hid (wW t k d.length=_):=hid (by
   unfold wW;simp only[h1,h2,h3,h4,h5,decide_true,decide_false,Bool.and_true,Bool.and_false];rfl)
  rw[HV.out];go_enter Tryz.func135,Tryz.ntmps135;go_wp2_with fail;go_ret;exact⟨rfl,(Below.refl _ _).alloc (Nat.le_refl _) _⟩
end Go.Proofs.YtjdglpcnkiioeaaGreat
namespace Go.Proofs.YtjdglpcnkiioeaaGreat
open Go.RowKit Go.Maps Go.Proofs.Own

structure aR (S:World->Prop):Prop where
 below:∀ {w w':World},S w->Below w.heap.size w w'->S w'
theorem aR.alloc {S:World->Prop}(h:aR S){w:World}(hs:S w)(o:Obj):S (w.alloc o):=h.below hs ((Below.refl _ _).alloc (Nat.le_refl _) o)
theorem aR.drew {S:World->Prop}(h:aR S){w:World}(hs:S w):S w.drew:=h.below hs ((Below.refl _ _).drew)
theorem aR.and {S T:World->Prop}(h:aR S)(k:aR T):aR fun w=>S w/\T w:=⟨fun hs hb=>⟨h.below hs.1 hb,k.below hs.2 hb⟩⟩
theorem aR.cell (p:Addr)(v:Value):aR fun w=>w.cell? p=some v:=⟨fun hs hb=>Below.at hb hs (World.block_lt_of_cell? _ _ hs)⟩
theorem aR.from(W:World):aR fun w=>Below W.heap.size W w:=⟨fun hs hb=>hs.trans (hb.mono hs.size)⟩

def beN (l:List Nat):Nat:=l.foldl (fun n c=>n*256+c) 0
theorem aJQ (l:List Nat):∀n k,n<256 ^ k->(∀c ∈ l,c<256)->l.foldl (fun n c=>n*256+c) n<256 ^ (k+l.length):=by
 induction l with
 | nil=>intro n k h _;simpa using h
 | cons c l ih =>
  intro n k h hl;have hc:=hl c (by simp);have:=ih (n*256+c) (k+1) (by rw[Nat.pow_succ];have:=Nat.mul_le_mul_right 256 (show n+1<=256 ^ k from h);omega) fun d hd=>hl d (by simp[hd])
  simpa [Nat.add_assoc,Nat.add_comm 1] using this
theorem aJR (l:List Nat)(hl:∀c ∈ l,c<256):beN l<256 ^ l.length:=by
 have:=aJQ l 0 0 (by decide) hl
 simpa [beN] using this
theorem aGM (l:List Nat)(c:Nat):beN (l ++ [c])=beN l*256+c:=by simp[beN,List.foldl_append]
theorem oP (l:List Nat)(k:Nat)(h:k<l.length):beN (l.take (k+1))=beN (l.take k)*256+l[k]:=by
 rw[List.take_succ_eq_append_getElem h,aGM]

theorem aJD (a b:Nat)(ha:a<18446744073709551616)(hb:b<18446744073709551616):bits .or .u64 (a:Int) (b:Int)=((a ||| b:Nat):Int):=by
 have hx:a ||| b<2 ^ 64:=Nat.or_lt_two_pow (by omega) (by omega)
 have h64:∀n:Nat,n<18446744073709551616->(BitVec.ofInt 64 (n:Int)).toNat=n:=fun n hn=>by
  rw[BitVec.ofInt_natCast,BitVec.toNat_ofNat];exact Nat.mod_eq_of_lt (by omega)
 have hw:IntKind.u64.wrap ((a ||| b:Nat):Int)=((a ||| b:Nat):Int):=by
  have:∀n:Int,IntKind.u64.wrap n=n % 18446744073709551616:=fun n=>by simp[IntKind.wrap,IntKind.bits,IntKind.signed]
  rw[this];omega
 show IntKind.u64.wrap ((BitVec.ofInt 64 (a:Int) ||| BitVec.ofInt 64 (b:Int)).toNat:Int)=_;rw[BitVec.toNat_or,h64 a ha,h64 b hb,hw]
theorem aIW (a c:Nat)(hc:c<256):a*256 ||| c=a*256+c:=by
 have:=Nat.two_pow_add_eq_or_of_lt (i:=8) (b:=c) (by omega) a;rw[show 2 ^ 8*a=a*256 by omega]at this;exact this.symm

theorem wrap_u64 (n:Int):IntKind.u64.wrap n=n % 18446744073709551616:=by simp[IntKind.wrap,IntKind.bits,IntKind.signed]
theorem aHW (n z:Nat)(hz:z<256)(hn:n*256+z<18446744073709551616):bits BinOp.or .u64 (IntKind.u64.wrap ((n:Int)*256)) (z:Int)=((n*256+z:Nat):Int):=by
 have h1:n*256<18446744073709551616:=Nat.lt_of_le_of_lt (Nat.le_add_right _ _) hn;have h2:z<18446744073709551616:=Nat.lt_of_le_of_lt (Nat.le_add_left _ _) hn;have h3:=aJD (n*256) z h1 h2;have hw:IntKind.u64.wrap ((n:Int)*256)=((n*256:Nat):Int):=by
  rw[wrap_u64];exact Int.emod_eq_of_lt (Int.natCast_nonneg (n*256)) (Int.ofNat_lt.2 h1)
 clear h1 h2 hn;have h4:=aIW n z hz;rw[h4]at h3;rw[hw];exact h3
theorem zX {l:List Nat}(hl:∀c ∈ l,c<256)(h8:l.length<=8):beN l<18446744073709551616 :=
 Nat.lt_of_lt_of_le (aJR l hl) (Nat.le_trans (Nat.pow_le_pow_right (by decide) h8) (Nat.le_of_ble_eq_true rfl))


def iR (l:List Nat):Prop:=8<l.getD 0 0\/l.length<=l.getD 0 0\/(0<l.getD 0 0/\l.getD 1 0=0)
instance (l:List Nat):Decidable (iR l):=inferInstanceAs (Decidable (_\/_))
def tN (l:List Nat):Nat:=beN ((l.drop 1).take (l.getD 0 0))
def eJ (most:Nat)(l:List Nat):Prop:=¬iR l/\tN l<=most
instance (most:Nat) (l:List Nat):Decidable (eJ most l):=inferInstanceAs (Decidable (_/\_))
def bO (most:Nat)(l:List Nat):Nat:=if eJ most l then tN l else 0
def cI (most:Nat)(l:List Nat):List Nat:=if eJ most l then l.drop (l.getD 0 0+1) else []
def cF (most:Nat)(l:List Nat):Bool:=if eJ most l then false else true
theorem fU (most:Nat)(l:List Nat):bO most l<=most:=by
 unfold bO;split
 ·rename_i h;exact h.2
 ·exact Nat.zero_le _
theorem aEV (most:Nat)(l:List Nat):(cI most l).length<=l.length:=by
 unfold cI;split
 ·rw[List.length_drop];omega
 ·simp

def iB (most:Nat)(l:List Nat):Prop:=bO most l<=(cI most l).length
instance (most:Nat) (l:List Nat):Decidable (iB most l):=inferInstanceAs (Decidable (_<=_))
def dY (most:Nat)(l:List Nat):List Nat:=if iB most l then (cI most l).take (bO most l) else []
def iU (most:Nat)(l:List Nat):List Nat:=if iB most l then (cI most l).drop (bO most l) else []
def iT (most:Nat)(l:List Nat):Bool:=cF most l || if iB most l then false else true
def gV (l:List Nat)(bad:Bool):Nat:=if bad=true\/0<l.length then 20 else 0

structure bT (w:World)(b rb:Nat)(l:List Nat)(bad:Bool):Prop where
 ex:∃v,w.cell? ⟨b,0,none⟩=some v/\Bytes w v l/\(l = []\/v.ownBlock=some rb)
 ne:rb≠b
 bad:w.cell? ⟨b,1,none⟩=some (.bool bad)
 free0:w.frozen? ⟨b,0,none⟩=false
 free1:w.frozen? ⟨b,1,none⟩=false
variable {rb:Nat}
theorem bT.lt {w:World}{b:Nat}{l:List Nat}{bad:Bool}(h:bT w b rb l bad):b<w.heap.size:=World.block_lt_of_cell? _ _ h.bad
theorem bT.below {w w':World}{b:Nat}{l:List Nat}{bad:Bool}(h:bT w b rb l bad)(hb:Below w.heap.size w w'):bT w' b rb l bad:=by
 obtain⟨v,h1,h2,h3⟩:=h.ex;have hl:=h.lt;exact⟨⟨v,Below.at hb h1 hl,h2.below hb,h3⟩,h.ne,Below.at hb h.bad hl,by rw[hb.frozen (p:=⟨b,0,none⟩) hl];exact h.free0,by rw[hb.frozen (p:=⟨b,1,none⟩) hl];exact h.free1⟩
theorem Bytes.xD {w w':World}{v:Value}{l:List Nat}{S:Nat->Prop}(h:Bytes w v l)(hk:Kept w w' S)(hv:l = []\/v.ownBlock=some rb)(hs:¬S rb):Bytes w' v l:=by
 rcases hv with rfl|hv
 ·exact⟨h.shape,by obtain⟨a,c,rfl,_⟩:=h.shape;exact Reads.nil _ _ _ _,h.lt,h.small⟩
 ·exact h.kept hk fun k hk'=>by rw[hv]at hk';cases hk';exact hs
theorem bT.kept {w w':World}{b:Nat}{l:List Nat}{bad:Bool}{S:Nat->Prop}(h:bT w b rb l bad)(hk:Kept w w' S)(hs:¬S b)(hr:¬S rb):bT w' b rb l bad:=by
 obtain⟨v,h1,h2,h3⟩:=h.ex;have hl:=h.lt;exact⟨⟨v,hk.cell h1 hs,h2.xD hk h3 hr,h3⟩,h.ne,hk.cell h.bad hs,by rw[hk.frozen (a:=⟨b,0,none⟩) hl hs];exact h.free0,by rw[hk.frozen (a:=⟨b,1,none⟩) hl hs];exact h.free1⟩
theorem bT.set {w:World}{b:Nat}{l l':List Nat}{bad:Bool}(h:bT w b rb l bad){v':Value}(hB:Bytes w v' l')(hv:l' = []\/v'.ownBlock=some rb):bT (w.setCell ⟨b,0,none⟩ v') b rb l' bad:=by
 obtain⟨v,h1,_,_⟩:=h.ex;have hk:=Kept.setCell w ⟨b,0,none⟩ v';refine⟨⟨v',css h1,hB.xD hk hv h.ne,hv⟩,h.ne,?_,by rw[fsc];exact h.free0,by rw[fsc];exact h.free1⟩;rw[cso (by simp)];exact h.bad
theorem bT.aHR {w:World}{b:Nat}{l:List Nat}{bad:Bool}(h:bT w b rb l bad)(bad':Bool):bT (w.setCell ⟨b,1,none⟩ (.bool bad')) b rb l bad':=by
 obtain⟨v,h1,h2,h3⟩:=h.ex;have hk:=Kept.setCell w ⟨b,1,none⟩ (.bool bad');refine⟨⟨v,?_,h2.xD hk h3 h.ne,h3⟩,h.ne,css h.bad,by rw[fsc];exact h.free0,by rw[fsc];exact h.free1⟩;rw[cso (by simp)];exact h1
end Go.Proofs.YtjdglpcnkiioeaaGreat
namespace Go.Proofs.YtjdglpcnkiioeaaGreat
open Go.Lib (hid)
open Go.RowKit Go.Maps Go.Proofs.Own
variable {rb:Nat}

theorem kM (b:Nat)(l:List Nat)(bad:Bool)(w:World)(h:bT w b rb l bad) :
  Calls Tryz.prog 171 #[.pointer (some ⟨b,0,none⟩)] w fun e w'=>e = .returned (.tuple #[])/\bT w' b rb [] true/\Kept w w' (fun k=>k=b):=by
 have H:=hid h;obtain⟨v,c0,_,_⟩:=h.ex;have c1:=h.bad;have f0:=h.free0;have f1:=h.free1;clear h;go_enter Tryz.func171,Tryz.ntmps171;go_wp2_with fail
 go_end0
 refine⟨rfl,(H.out.set (Bytes.nil _) (.inl rfl)).aHR true,(Kept.setCell w ⟨b,0,none⟩ _).trans (Kept.setCell _ ⟨b,1,none⟩ _)⟩

theorem gR (b:Nat)(l:List Nat)(bad:Bool)(w:World)(h:bT w b rb l bad) :
  Calls Tryz.prog 172 #[.pointer (some ⟨b,0,none⟩)] w fun e w'=>e = .returned (.int .i64 l.length)/\w=w':=by
 obtain⟨v,c0,hB,_⟩:=h.ex;obtain⟨a,c,rfl,_⟩:=hB.shape;clear h hB;go_enter Tryz.func172,Tryz.ntmps172;go_wp2_with fail;go_ret;exact⟨rfl,rfl⟩

def lO (b rb most:Nat)(l:List Nat)(bad:Bool)(w:World):Ending->World->Prop:=fun e w'=>e = .returned (.tuple #[.int .u64 (bO most l),.bool false])/\bT w' b rb (cI most l) (bad || cF most l)/\Kept w w' (fun k=>k=b)
theorem oZ {b most:Nat}{l:List Nat}{bad:Bool}{w:World}(h:¬eJ most l):lO b rb most l bad w=fun e w'=>e = .returned (.tuple #[.int .u64 0,.bool false])/\bT w' b rb [] true/\Kept w w' (fun k=>k=b):=by
 unfold lO bO cI cF;simp[h]
theorem aBs {b most:Nat}{l:List Nat}{bad:Bool}{w:World}(h:eJ most l):lO b rb most l bad w=fun e w'=>e = .returned (.tuple #[.int .u64 (tN l),.bool false])/\bT w' b rb (l.drop (l.getD 0 0+1)) bad/\Kept w w' (fun k=>k=b):=by
 unfold lO bO cI cF;simp[h]

theorem aHB (b most:Nat)(bad:Bool)(w:World)(h:bT w b rb [] bad) :
  Calls Tryz.prog 170 #[.pointer (some ⟨b,0,none⟩),.int .u64 most,.bool false] w (lO b rb most [] bad w):=by
 rw[oZ (by simp[eJ,iR])];have H:=hid h;clear h;go_enter Tryz.func170,Tryz.ntmps170;go_wp2_with fail;refine(gR b [] bad _ H.out).mono ?_;rintro e w1 ⟨rfl,rfl⟩;go_wp2_with fail;refine(kM b [] bad _ H.out).mono ?_;rintro e w1 ⟨rfl,h1,h2⟩;have H1:=hid h1;have H2:=hid h2;clear h1 h2;go_wp2_with fail
 go_ret2
 exact⟨rfl,H1.out,H2.out⟩

theorem aHC (b most:Nat)(l:List Nat)(bad:Bool)(w:World)(h:bT w b rb l bad)(hne:0<l.length)(hbad:iR l) :
  Calls Tryz.prog 170 #[.pointer (some ⟨b,0,none⟩),.int .u64 most,.bool false] w (lO b rb most l bad w):=by
 rw[oZ fun h=>h.1 hbad];have H:=hid h;obtain⟨v,c0,hB,_⟩:=h.ex;obtain⟨b1,o1,c,rfl,hle,hbs,hcell⟩:=hB.eD hne;have d0:w.cell? ⟨b1,o1,none⟩=some (.int .u8 (l.getD 0 0:Nat)):=hcell 0 hne;have d1:1<l.length->w.cell? ⟨b1,o1+1,none⟩=some (.int .u8 (l.getD 1 0:Nat)):=fun h=>hcell 1 h;have x0:=hB.dB 0;have x1:=hB.dB 1;have hlb:(l.length:Int)<=2097152:=by have:=hB.small;omega
 have hl0:((l.length:Int)==0)=false:=beq_eq_false_iff_ne.2 (by omega);have i0:(0:Int)<(l.length:Int):=by omega
 unfold iR at hbad;generalize l.getD 0 0=x at d0 x0 hbad;generalize l.getD 1 0=y at d1 x1 hbad;have key:((8:Int)<(x:Int))\/((x:Int)<=8/\(l.length:Int)<=(x:Int))\/((x:Int)<=8/\(x:Int)<(l.length:Int)/\(0:Int)<(x:Int)/\((y:Int)==0)=true):=by
  by_cases h8:8<x
  ·exact .inl (by omega)
  ·by_cases hll:l.length<=x
   ·exact .inr (.inl ⟨by omega,by omega⟩)
   ·exact .inr (.inr ⟨by omega,by omega,by omega,by simp;omega⟩)
 clear h hB hcell hle hbad hne;rcases key with k1|⟨k1,k2⟩|⟨k1,k2,k3,k4⟩
 ·clear d1;go_enter Tryz.func170,Tryz.ntmps170;go_wp2_with fail;refine(gR b l bad _ H.out).mono ?_;rintro e w1 ⟨rfl,rfl⟩;go_wp2_with fail;refine(kM b l bad _ H.out).mono ?_;rintro e w1 ⟨rfl,h1,h2⟩;have H1:=hid h1;have H2:=hid h2;clear h1 h2;go_wp2_with fail
  go_ret2
  exact⟨rfl,H1.out,H2.out⟩
 ·clear d1;go_enter Tryz.func170,Tryz.ntmps170;go_wp2_with fail;refine(gR b l bad _ H.out).mono ?_;rintro e w1 ⟨rfl,rfl⟩;go_wp2_with fail;refine(kM b l bad _ H.out).mono ?_;rintro e w1 ⟨rfl,h1,h2⟩;have H1:=hid h1;have H2:=hid h2;clear h1 h2;go_wp2_with fail
  go_ret2
  exact⟨rfl,H1.out,H2.out⟩
 ·have d1':=d1 (by omega);have i1:(1:Int)<(l.length:Int):=by omega
  clear d1;go_enter Tryz.func170,Tryz.ntmps170;go_wp2_with fail;refine(gR b l bad _ H.out).mono ?_;rintro e w1 ⟨rfl,rfl⟩;go_wp2_with fail;refine(kM b l bad _ H.out).mono ?_;rintro e w1 ⟨rfl,h1,h2⟩;have H1:=hid h1;have H2:=hid h2;clear h1 h2;go_wp2_with fail
  go_ret2
  exact⟨rfl,H1.out,H2.out⟩

theorem aHD (b most:Nat)(l:List Nat)(bad:Bool)(w:World)(h:bT w b rb l bad)(hb:¬iR l)(hmost:most<18446744073709551616) :
  Calls Tryz.prog 170 #[.pointer (some ⟨b,0,none⟩),.int .u64 most,.bool false] w (lO b rb most l bad w):=by
 have H:=hid h;obtain⟨v,c0,hB,hvb⟩:=h.ex;have f0:=h.free0;have hx8:l.getD 0 0<=8/\l.getD 0 0<l.length:=by unfold iR at hb;omega
 have hy:0<l.getD 0 0->l.getD 1 0≠0:=by unfold iR at hb;omega
 obtain⟨v1,hB1,hcut1⟩:=hB.aJT Tryz.u8s 1 (l.getD 0 0+1) (by omega) (by omega);obtain⟨v2,hB2,hv2,hcut2⟩:=hB.aAb Tryz.u8s (l.getD 0 0+1) (by omega);have e1:(l.take (l.getD 0 0+1)).drop 1=(l.drop 1).take (l.getD 0 0):=by rw[List.drop_take];congr 1
 rw[e1]at hB1;have HX:Hid (tN l=beN ((l.drop 1).take (l.getD 0 0))):=hid rfl;obtain⟨b1,o1,c,rfl,hle,hbs,hcell⟩:=hB.eD (by omega);have d0:w.cell? ⟨b1,o1,none⟩=some (.int .u8 (l.getD 0 0:Nat)):=hcell 0 (by omega);have d1:0<l.getD 0 0->w.cell? ⟨b1,o1+1,none⟩=some (.int .u8 (l.getD 1 0:Nat)):=fun h=>hcell 1 (by omega);have x0:=hB.dB 0;have x1:=hB.dB 1;have hlb:(l.length:Int)<=2097152:=by have:=hB.small;omega
 have hl0:((l.length:Int)==0)=false:=beq_eq_false_iff_ne.2 (by omega);have i0:(0:Int)<(l.length:Int):=by omega
 have hlen1:((l.drop 1).take (l.getD 0 0)).length=l.getD 0 0:=by rw[List.length_take,List.length_drop];omega
 have HG:Hid (eJ most l ↔ tN l<=most):=hid ⟨fun h=>h.2,fun h=>⟨hb,h⟩⟩;have hv2':l.drop (l.getD 0 0+1) = []\/v2.ownBlock=some rb:=by rw[hv2];exact hvb.imp (fun h=>by rw[h];simp) id
 have HB2:=hid hB2;clear h hB hcell hle hb e1 hvb hv2 hB2;generalize hrest:l.drop (l.getD 0 0+1)=rest at HB2 hv2';generalize hbl:(l.drop 1).take (l.getD 0 0)=bl at hB1 HX hlen1;have HREST:=hid hrest;clear hbl hrest;generalize hxx:l.getD 0 0=x at *
 have HXX:=hid hxx;clear hxx;generalize l.getD 1 0=y at *
 have key:(x:Int)<=0\/((0:Int)<(x:Int)/\((y:Int)==0)=false/\w.cell? ⟨b1,o1+1,none⟩=some (.int .u8 (y:Nat))/\(1:Int)<(l.length:Int)):=by
  by_cases h0:x=0
  ·exact .inl (by omega)
  ·exact .inr ⟨by omega,by have:=hy (by omega);simp;omega,d1 (by omega),by omega⟩
 have k8:(x:Int)<=8:=by omega
 have kl:(x:Int)<(l.length:Int):=by omega
 obtain⟨a1,c1,rfl,_⟩:=hB1.shape;have hcut1':∀w',(Instr.slice 36 (.slice (some ⟨b1,o1,none⟩) l.length c) (some (.int .i64 1)) (some (.int .i64 ((x:Int)+1))) none).run Tryz.prog w' = .ok (.slice a1 bl.length c1) w':=hcut1;have hcut2':∀w',(Instr.slice 36 (.slice (some ⟨b1,o1,none⟩) l.length c) (some (.int .i64 ((x:Int)+1))) none none).run Tryz.prog w' = .ok v2 w':=hcut2;have HL1:=hid hlen1;have HB1:=hid hB1;have HBC:=hid hB1.cells.2.2;have hx8':bl.length<=8:=by omega
 obtain⟨a2,c2,rfl,_⟩:=HB2.out.shape;clear hcut1 hcut2 hlen1 hB1 hx8 hy d1;have HSM:Hid (∀k (h:k<bl.length),beN (bl.take k)*256+bl[k]<18446744073709551616):=hid fun k h=>by
  rw[<- oP bl k h];exact zX (fun c hc=>HB1.out.lt c (List.mem_of_mem_take hc)) (by rw[List.length_take];omega)
 have HSET:Hid (bT (w.setCell ⟨b,0,none⟩ (.slice a2 rest.length c2)) b rb rest bad):=hid (H.out.set HB2.out hv2');clear hv2';by_cases hgm:tN l<=most
 ·rw[aBs (HG.out.2 hgm)];rw[HX.out]at hgm ⊢;have hgi:¬(most:Int)<((beN bl:Nat):Int):=by omega
  have HMOST:=hid hmost;have HD:Hid (l.drop (l.getD 0 0+1)=rest):=hid (by rw[HXX.out];exact HREST.out);rw[HD.out];clear hgm hmost;rcases key with k1|⟨k1,k2,k3,k4⟩
  all_goals
   go_enter Tryz.func170,Tryz.ntmps170;go_wp2_with fail;refine(gR b l bad _ H.out).mono ?_;rintro e w1 ⟨rfl,rfl⟩;go_wp2_with fail
   go_loop [6,62] (fun n i=>∃k:Nat,k<=bl.length/\i = .int .i64 k/\n = .int .u64 (beN (bl.take k):Nat)) (fun _ i=>bl.length-(intOf i).toNat)
   case atStart=>exact⟨0,Nat.zero_le _,rfl,rfl⟩
   case round =>
    obtain⟨k,hk,rfl,rfl⟩:=hrel;by_cases hlt:k<bl.length
    ·obtain⟨b2,o2,rfl,hcell⟩:=HBC.out k hlt;have hx:bl[k]<256:=HB1.out.lt _ (List.getElem_mem hlt);have hsm:=HSM.out k hlt;have HS:=hid (oP bl k hlt);generalize bl[k]=z at hcell hx HS hsm;generalize beN (bl.take k)=n at HS hsm ⊢;have HV:=hid (aHW n z hx hsm);clear hsm;go_wp2_with fail
     go_round
     case rel=>exact⟨k+1,by omega,by go_num,by rw[HV.out,HS.out]⟩
     case measure=>simp[intOf];omega
    ·obtain rfl:k=bl.length:=by omega
     go_wp2_with fail
     go_ret2
     exact⟨rfl,HSET.out,Kept.setCell w ⟨b,0,none⟩ _⟩
 ·rw[oZ fun h=>hgm (HG.out.1 h)];rw[HX.out]at hgm;have hgi:(most:Int)<((beN bl:Nat):Int):=by omega
  have HMOST:=hid hmost;clear hgm hmost;rcases key with k1|⟨k1,k2,k3,k4⟩
  all_goals
   go_enter Tryz.func170,Tryz.ntmps170;go_wp2_with fail;refine(gR b l bad _ H.out).mono ?_;rintro e w1 ⟨rfl,rfl⟩;go_wp2_with fail
   go_loop [6,62] (fun n i=>∃k:Nat,k<=bl.length/\i = .int .i64 k/\n = .int .u64 (beN (bl.take k):Nat)) (fun _ i=>bl.length-(intOf i).toNat)
   case atStart=>exact⟨0,Nat.zero_le _,rfl,rfl⟩
   case round =>
    obtain⟨k,hk,rfl,rfl⟩:=hrel;by_cases hlt:k<bl.length
    ·obtain⟨b2,o2,rfl,hcell⟩:=HBC.out k hlt;have hx:bl[k]<256:=HB1.out.lt _ (List.getElem_mem hlt);have hsm:=HSM.out k hlt;have HS:=hid (oP bl k hlt);generalize bl[k]=z at hcell hx HS hsm;generalize beN (bl.take k)=n at HS hsm ⊢;have HV:=hid (aHW n z hx hsm);clear hsm;go_wp2_with fail
     go_round
     case rel=>exact⟨k+1,by omega,by go_num,by rw[HV.out,HS.out]⟩
     case measure=>simp[intOf];omega
    ·obtain rfl:k=bl.length:=by omega
     go_wp2_with fail;refine(kM b l bad _ H.out).mono ?_;rintro e w1 ⟨rfl,h1,h2⟩;have H1:=hid h1;have H2:=hid h2;clear h1 h2;go_wp2_with fail
     go_ret2
     exact⟨rfl,H1.out,H2.out⟩

theorem aCG (b most:Nat)(l:List Nat)(bad:Bool)(w:World)(h:bT w b rb l bad)(hmost:most<18446744073709551616) :
  Calls Tryz.prog 170 #[.pointer (some ⟨b,0,none⟩),.int .u64 most,.bool false] w (lO b rb most l bad w):=by
 by_cases h0:l = []
 ·subst h0;exact aHB b most bad w h
 ·by_cases hb:iR l
  ·exact aHC b most l bad w h (List.length_pos_iff.2 h0) hb
  ·exact aHD b most l bad w h hb hmost

theorem fK (b:Nat)(m:Int)(l:List Nat)(bad:Bool)(w:World)(h:bT w b rb l bad)(hm0:0<=m)(hmost:m<18446744073709551616) :
  Calls Tryz.prog 132 #[.pointer (some ⟨b,0,none⟩),.int .u64 m] w fun e w'=>e = .returned (.int .u64 (bO m.toNat l))/\bT w' b rb (cI m.toNat l) (bad || cF m.toNat l)/\Kept w w' (fun k=>k=b):=by
 obtain⟨n,rfl⟩:=Int.eq_ofNat_of_zero_le hm0;have C:=hid (aCG b n l bad w h (by omega));rw[Int.toNat_natCast];clear h hm0 hmost;go_enter Tryz.func132,Tryz.ntmps132;go_wp2_with fail;refine C.out.mono ?_;rintro e w1 ⟨rfl,h1,h2⟩;have H1:=hid h1;have H2:=hid h2;clear h1 h2;go_wp2_with fail;go_ret;exact⟨rfl,H1.out,H2.out⟩
variable {rb:Nat}

theorem kN (v:Value)(l:List Nat)(w:World)(hB:Bytes w v l)(hrb:l = []\/v.ownBlock=some rb)(hne:rb≠w.heap.size) :
  Calls Tryz.prog 131 #[v] w fun e w'=>e = .returned (.pointer (some ⟨w.heap.size,0,none⟩))/\bT w' w.heap.size rb l false/\Below w.heap.size w w':=by
 have H:=hid hB;have HV:=hid hrb;have HN:=hid hne;obtain⟨a,c,rfl,_⟩:=hB.shape;clear hB hrb hne;go_enter Tryz.func131,Tryz.ntmps131;go_wp2_with fail;go_ret;refine⟨rfl,⟨⟨_,by go_cell,H.out.alloc _,HV.out⟩,HN.out,by go_cell,?_,?_⟩,(Below.refl _ _).alloc (Nat.le_refl _) _⟩
 ·simp
 ·simp

theorem aHE (b n:Nat)(l:List Nat)(bad:Bool)(w:World)(h:bT w b rb l bad)(hn:n<=l.length) :
  Calls Tryz.prog 173 #[.pointer (some ⟨b,0,none⟩),.int .i64 n] w fun e w'=>∃v,e = .returned v/\Bytes w' v (l.take n)/\bT w' b rb (l.drop n) bad/\Kept w w' (fun k=>k=b):=by
 have H:=hid h;obtain⟨v,c0,hB,hvb⟩:=h.ex;have f0:=h.free0;obtain⟨v1,hB1,hcut1⟩:=hB.aFh Tryz.u8s n hn;obtain⟨v2,hB2,hv2,hcut2⟩:=hB.aAb Tryz.u8s n hn;have hv2':l.drop n = []\/v2.ownBlock=some rb:=by rw[hv2];exact hvb.imp (fun h=>by rw[h];simp) id
 have hlb:(l.length:Int)<=2097152:=by have:=hB.small;omega
 have hn':(n:Int)<=(l.length:Int):=by omega
 have hn0:¬(n:Int)<0:=by omega
 obtain⟨a,c,rfl,_⟩:=hB.shape;obtain⟨a2,c2,rfl,_⟩:=hB2.shape;rw[List.length_drop]at hcut2 hB2 hv2';have HB1:=hid hB1;have HB2:=hid hB2;have HV2:=hid hv2';have hs1:(ints (l.take n)).length<=2097152:=by rw[aS];exact hB1.small
 have HC0:=hid c0;have HF0:=hid f0;clear h hB hvb hn hB1 hB2 hv2 hv2';go_enter Tryz.func173,Tryz.ntmps173;go_wp2_with fail;refine(gR b l bad _ H.out).mono ?_;rintro e w1 ⟨rfl,rfl⟩;go_wp2_with fail;refine(nJ _ _ _ HB1.out.rd hs1).mono ?_;rintro e w1 ⟨v3,rfl,hown,hb1⟩;have O1:=hid hown;have B1:=hid hb1;clear hown hb1 c0 f0;have c0:=Below.at B1.out HC0.out H.out.lt;have f0:w1.frozen? ⟨b,0,none⟩=false:=(H.out.below B1.out).free0;have O2:Hid (Bytes w1 v3 (l.take n)):=hid (Bytes.dL O1.out HB1.out.lt HB1.out.small);have O3:Hid (v3.ownBlock≠some b):=hid fun e=>by have:=(O1.out.lt b e).1;have:=H.out.lt;omega
 go_wp2_with fail;go_ret;refine⟨_,rfl,O2.out.kept (Kept.setCell _ ⟨b,0,none⟩ _) fun k hk e=>O3.out (by rw[hk,e]),(H.out.below B1.out).set (HB2.out.below B1.out) HV2.out,?_⟩;exact(Kept.aL B1.out (S:=fun k=>k=b) (fun k h1 h2=>by omega)).trans (Kept.setCell _ ⟨b,0,none⟩ _)

theorem lF (b:Nat)(l:List Nat)(bad:Bool)(w:World)(h:bT w b rb l bad) :
  Calls Tryz.prog 133 #[.pointer (some ⟨b,0,none⟩)] w fun e w'=>e = .returned (.int .i64 (gV l bad))/\w=w':=by
 obtain⟨v,c0,hB,_⟩:=h.ex;have c1:=h.bad;have hlb:(l.length:Int)<=2097152:=by have:=hB.small;omega
 obtain⟨a,c,rfl,_⟩:=hB.shape;cases bad with
 | true =>
  have HE:Hid (gV l true=20):=hid (by simp[gV]);clear h hB;go_enter Tryz.func133,Tryz.ntmps133;go_wp2_with fail;go_ret;exact⟨by rw[HE.out];rfl,rfl⟩
 | false =>
  by_cases h0:0<l.length
  ·have HE:Hid (gV l false=20):=hid (if_pos (.inr h0));have hl:(0:Int)<(l.length:Int):=by omega
   clear h hB h0;go_enter Tryz.func133,Tryz.ntmps133;go_wp2_with fail;go_ret;exact⟨by rw[HE.out];rfl,rfl⟩
  ·have HE:Hid (gV l false=0):=hid (if_neg fun h=>h.elim (fun h=>by cases h) h0);have hl:¬(0:Int)<(l.length:Int):=by omega
   clear h hB h0;go_enter Tryz.func133,Tryz.ntmps133;go_wp2_with fail;go_ret;exact⟨by rw[HE.out];rfl,rfl⟩

theorem aAJ (b most:Nat)(l:List Nat)(bad:Bool)(w:World)(h:bT w b rb l bad)(hm:most<=1000000) :
  Calls Tryz.prog 134 #[.pointer (some ⟨b,0,none⟩),.int .i64 most] w fun e w'=>e = .returned (.string (bX (dY most l)))/\bT w' b rb (iU most l) (bad || iT most l)/\Kept w w' (fun k=>k=b):=by
 have C:=hid (fK b most l bad w h (by omega) (by omega));have hm':(most:Int)<=1000000:=by omega
 have hm0:¬(most:Int)<0:=by omega
 have hvm:((bO most l:Nat):Int)<=1000000:=by have:=fU most l;omega
 have HN:Hid ((most:Int).toNat=most):=hid (Int.toNat_natCast _);have hsm:(cI most l).length<=2097152:=by
  obtain⟨v,_,hB,_⟩:=h.ex;have:=aEV most l;have:=hB.small;omega
 have hll:((cI most l).length:Int)<=2097152:=by omega
 clear h hm hsm;by_cases hg:iB most l
 ·have HG:=hid hg;have hgi:((bO most l:Nat):Int)<=((cI most l).length:Int):=by unfold iB at hg;omega
  have HV:Hid (dY most l=(cI most l).take (bO most l)/\iU most l=(cI most l).drop (bO most l)/\iT most l=cF most l):=hid (by simp[dY,iU,iT,hg]);have HGL:Hid (bO most l<=(cI most l).length):=hid hg;clear hg;go_enter Tryz.func134,Tryz.ntmps134;go_wp2_with fail;refine C.out.mono ?_;rintro e w1 ⟨rfl,h1,h2⟩;rw[HN.out]at h1 ⊢;have H1:=hid h1;have H2:=hid h2;clear h1 h2;go_wp2_with fail;refine(gR b _ _ _ H1.out).mono ?_;rintro e w2 ⟨rfl,rfl⟩;go_wp2_with fail;refine(aHE b (bO most l) _ _ _ H1.out HGL.out).mono ?_;rintro e w3 ⟨v3,rfl,hB3,h3,k3⟩;have HB3:=hid hB3;have H3:=hid h3;have K3:=hid k3;clear hB3 h3 k3
  go_wp2_with (refine iC rfl 36 9 5 _ rfl Tryz.underlying36 Tryz.underlying5 Tryz.underlying9 _ _ rfl HB3.out ?_)
  go_ret;exact⟨by rw[HV.out.1];rfl,by rw[HV.out.2.1,HV.out.2.2];exact H3.out,H2.out.trans K3.out⟩
 ·have hgi:((cI most l).length:Int)<((bO most l:Nat):Int):=by unfold iB at hg;omega
  have HV:Hid (dY most l = []/\iU most l = []/\iT most l=true):=hid (by simp[dY,iU,iT,hg]);clear hg;go_enter Tryz.func134,Tryz.ntmps134;go_wp2_with fail;refine C.out.mono ?_;rintro e w1 ⟨rfl,h1,h2⟩;rw[HN.out]at h1 ⊢;have H1:=hid h1;have H2:=hid h2;clear h1 h2;go_wp2_with fail;refine(gR b _ _ _ H1.out).mono ?_;rintro e w2 ⟨rfl,rfl⟩;go_wp2_with fail;refine(kM b _ _ _ H1.out).mono ?_;rintro e w3 ⟨rfl,h3,k3⟩;have H3:=hid h3;have K3:=hid k3;clear h3 k3;go_wp2_with fail;go_ret;exact⟨by rw[HV.out.1];rfl,by rw[HV.out.2.1,HV.out.2.2,Bool.or_true];exact H3.out,H2.out.trans K3.out⟩
variable {rb:Nat}

theorem aCs (n z:Nat)(hn:n*256+z<18446744073709551616):IntKind.u64.wrap (IntKind.u64.wrap ((n:Int)*256)+(z:Int))=((n*256+z:Nat):Int):=by
 have h1:n*256<18446744073709551616:=Nat.lt_of_le_of_lt (Nat.le_add_right _ _) hn;have hw:IntKind.u64.wrap ((n:Int)*256)=((n*256:Nat):Int):=by
  rw[wrap_u64];exact Int.emod_eq_of_lt (Int.natCast_nonneg (n*256)) (Int.ofNat_lt.2 h1)
 rw[hw,wrap_u64];exact Int.emod_eq_of_lt (Int.natCast_nonneg (n*256+z)) (Int.ofNat_lt.2 hn)

theorem pY (b:Nat)(l:List Nat)(bad:Bool)(w:World)(h:bT w b rb l bad) :
  Calls Tryz.prog 255 #[.pointer (some ⟨b,0,none⟩)] w fun e w'=>e = .returned (.tuple #[])/\bT w' b rb [] true/\Kept w w' (fun k=>k=b):=by
 have H:=hid h;obtain⟨v,c0,_,_⟩:=h.ex;have c1:=h.bad;have f0:=h.free0;have f1:=h.free1;clear h;go_enter Tryz.func255,Tryz.ntmps255;go_wp2_with fail
 go_end0
 refine⟨rfl,(H.out.set (Bytes.nil _) (.inl rfl)).aHR true,(Kept.setCell w ⟨b,0,none⟩ _).trans (Kept.setCell _ ⟨b,1,none⟩ _)⟩

theorem aF0 (b:Nat)(bad:Bool)(w:World)(h:bT w b rb [] bad) :
  Calls Tryz.prog 253 #[.pointer (some ⟨b,0,none⟩)] w fun e w'=>e = .returned (.tuple #[.int .u8 0,.bool false])/\w=w':=by
 obtain⟨v,c0,hB,_⟩:=h.ex;obtain⟨a,c,rfl,_⟩:=hB.shape;clear h hB;go_enter Tryz.func253,Tryz.ntmps253;go_wp2_with fail
 go_ret2
 exact⟨rfl,rfl⟩

theorem rD (b:Nat)(l:List Nat)(bad:Bool)(w:World)(h:bT w b rb l bad)(hne:0<l.length) :
  Calls Tryz.prog 253 #[.pointer (some ⟨b,0,none⟩)] w fun e w'=>e = .returned (.tuple #[.int .u8 (l.getD 0 0:Nat),.bool true])/\bT w' b rb (l.drop 1) bad/\Kept w w' (fun k=>k=b):=by
 have H:=hid h;obtain⟨v,c0,hB,hvb⟩:=h.ex;have f0:=h.free0;obtain⟨v2,hB2,hv2,hcut2⟩:=hB.aAb Tryz.u8s 1 (by omega);have hv2':l.drop 1 = []\/v2.ownBlock=some rb:=by rw[hv2];exact hvb.imp (fun h=>by rw[h];simp) id
 obtain⟨b1,o1,c,rfl,hle,hbs,hcell⟩:=hB.eD hne;have d0:w.cell? ⟨b1,o1,none⟩=some (.int .u8 (l.getD 0 0:Nat)):=hcell 0 hne;have hlb:(l.length:Int)<=2097152:=by have:=hB.small;omega
 have hl0:((l.length:Int)==0)=false:=beq_eq_false_iff_ne.2 (by omega);have i0:(0:Int)<(l.length:Int):=by omega
 obtain⟨a2,c2,rfl,_⟩:=hB2.shape;have x0:=hB.dB 0;rw[List.length_drop]at hcut2 hB2 hv2';have hcut2':∀w',(Instr.slice 36 (.slice (some ⟨b1,o1,none⟩) l.length c) (some (.int .i64 1)) none none).run Tryz.prog w' = .ok (.slice a2 (l.length-1) c2) w':=hcut2;have HS:Hid (bT (w.setCell ⟨b,0,none⟩ (.slice a2 (l.length-1) c2)) b rb (l.drop 1) bad):=hid (H.out.set hB2 hv2');clear h hB hcell hle hcut2 hB2 hvb hv2' hv2 hne;generalize l.getD 0 0=x at d0 x0 ⊢;go_enter Tryz.func253,Tryz.ntmps253;go_wp2_with fail
 go_ret2
 exact⟨rfl,HS.out,Kept.setCell w ⟨b,0,none⟩ _⟩

def aBn (n:Nat)(l:List Nat):Prop:=8<n\/l.length<n\/(0<n/\l.getD 0 0=0)

theorem aDY (b n:Nat)(l:List Nat)(bad:Bool)(w:World)(h:bT w b rb l bad)(hb:aBn n l)(hn:n<256) :
  Calls Tryz.prog 254 #[.pointer (some ⟨b,0,none⟩),.int .i64 n] w fun e w'=>e = .returned (.tuple #[.int .u64 0,.bool false])/\w=w':=by
 obtain⟨v,c0,hB,_⟩:=h.ex;obtain⟨a,c,rfl,hle⟩:=hB.shape;have hlb:(l.length:Int)<=2097152:=by have:=hB.small;omega
 have hn':(n:Int)<256:=by omega
 have key:(8:Int)<(n:Int)\/((n:Int)<=8/\(l.length:Int)<(n:Int))\/((n:Int)<=8/\(n:Int)<=(l.length:Int)/\(0:Int)<(n:Int) /\ ∃b1 o1,a=some ⟨b1,o1,none⟩/\(0:Int)<(l.length:Int)/\w.cell? ⟨b1,o1,none⟩=some (.int .u8 0)):=by
  unfold aBn at hb;by_cases h8:8<n
  ·exact .inl (by omega)
  ·by_cases hl:l.length<n
   ·exact .inr (.inl ⟨by omega,by omega⟩)
   ·obtain⟨_,_,hc⟩:=hB.cells;obtain⟨b1,o1,e,hc0⟩:=hc 0 (by omega);refine .inr (.inr ⟨by omega,by omega,by omega,b1,o1,e,by omega,?_⟩);have h0:l.getD 0 0=0:=by omega
    rw[aAm (by omega)]at h0;rw[h0]at hc0;exact hc0
 clear h hB hb hn;rcases key with k1|⟨k1,k2⟩|⟨k1,k2,k3,b1,o1,rfl,k4,k5⟩
 all_goals
  go_enter Tryz.func254,Tryz.ntmps254;go_wp2_with fail
  go_ret2
  exact⟨rfl,rfl⟩

theorem uX (b n:Nat)(l:List Nat)(bad:Bool)(w:World)(h:bT w b rb l bad)(hb:¬aBn n l) :
  Calls Tryz.prog 254 #[.pointer (some ⟨b,0,none⟩),.int .i64 n] w fun e w'=>e = .returned (.tuple #[.int .u64 (beN (l.take n):Nat),.bool true])/\bT w' b rb (l.drop n) bad/\Kept w w' (fun k=>k=b):=by
 have H:=hid h;obtain⟨v,c0,hB,hvb⟩:=h.ex;have f0:=h.free0;have hn8:n<=8/\n<=l.length:=by unfold aBn at hb;omega
 have hn0:0<n->l.getD 0 0≠0:=by unfold aBn at hb;omega
 obtain⟨v2,hB2,hv2,hcut2⟩:=hB.aAb Tryz.u8s n (by omega);have hv2':l.drop n = []\/v2.ownBlock=some rb:=by rw[hv2];exact hvb.imp (fun h=>by rw[h];simp) id
 obtain⟨a,c,rfl,hle⟩:=hB.shape;obtain⟨a2,c2,rfl,_⟩:=hB2.shape;have HC:=hid hB.cells.2.2;have HLT:=hid hB.lt;have hlb:(l.length:Int)<=2097152:=by have:=hB.small;omega
 rw[List.length_drop]at hcut2 hB2 hv2';have HS:Hid (bT (w.setCell ⟨b,0,none⟩ (.slice a2 (l.length-n) c2)) b rb (l.drop n) bad):=hid (H.out.set hB2 hv2');have key:(n:Int)<=0\/((0:Int)<(n:Int) /\ ∃b1 o1,a=some ⟨b1,o1,none⟩/\(0:Int)<(l.length:Int)/\w.cell? ⟨b1,o1,none⟩=some (.int .u8 (l.getD 0 0:Nat))/\(((l.getD 0 0:Nat):Int)==0)=false):=by
  by_cases h0:0<n
  ·obtain⟨b1,o1,e,hc0⟩:=HC.out 0 (by omega);refine .inr ⟨by omega,b1,o1,e,by omega,?_,beq_eq_false_iff_ne.2 (by have:=hn0 h0;omega)⟩;rw[aAm (by omega)];exact hc0
  ·exact .inl (by omega)
 have n8:(n:Int)<=8:=by omega
 have nl:(n:Int)<=(l.length:Int):=by omega
 have HNL:Hid (n<=l.length):=hid hn8.2;have HSM:Hid (∀k (h:k<l.length),k<n->beN (l.take k)*256+l[k]<18446744073709551616):=hid fun k h hk=>by
  rw[<- oP l k h];exact zX (fun c hc=>hB.lt c (List.mem_of_mem_take hc)) (by rw[List.length_take];omega)
 clear h hB hb hvb hle hB2 hv2 hv2' hn0 hn8;generalize l.getD 0 0=x0 at key;rcases key with k1|⟨k1,b1,o1,rfl,k2,k3,k4⟩
 ·go_enter Tryz.func254,Tryz.ntmps254;go_wp2_with fail
  go_loop [6,7] (fun x i=>∃k:Nat,k<=n/\i = .int .i64 k/\x = .int .u64 (beN (l.take k):Nat)) (fun _ i=>n-(intOf i).toNat)
  case atStart=>exact⟨0,Nat.zero_le _,rfl,rfl⟩
  case round =>
   obtain⟨k,hk,rfl,rfl⟩:=hrel;obtain rfl:k=n:=by omega
   go_wp2_with fail
   go_ret2
   exact⟨rfl,HS.out,Kept.setCell w ⟨b,0,none⟩ _⟩
 ·go_enter Tryz.func254,Tryz.ntmps254;go_wp2_with fail
  go_loop [6,7] (fun x i=>∃k:Nat,k<=n/\i = .int .i64 k/\x = .int .u64 (beN (l.take k):Nat)) (fun _ i=>n-(intOf i).toNat)
  case atStart=>exact⟨0,Nat.zero_le _,rfl,rfl⟩
  case round =>
   obtain⟨k,hk,rfl,rfl⟩:=hrel;by_cases hlt:k<n
   ·have hkl:k<l.length:=by have:=HNL.out;omega
    have hki:(k:Int)<(l.length:Int):=by omega
    have hk0:(0:Int)<=(k:Int):=by omega
    obtain⟨b2,o2,hb2,hcell⟩:=HC.out k hkl;cases hb2;have hx:l[k]<256:=HLT.out _ (List.getElem_mem hkl);have hsm:=HSM.out k hkl hlt;have HS2:=hid (oP l k hkl);generalize l[k]=z at hcell hx HS2 hsm;generalize beN (l.take k)=m at HS2 hsm ⊢;have HV:=hid (aCs m z hsm);clear hsm;go_wp2_with fail
    go_round
    case rel=>exact⟨k+1,by omega,by go_num,by rw[HV.out,HS2.out]⟩
    case measure=>simp[intOf];omega
   ·obtain rfl:k=n:=by omega
    go_wp2_with fail
    go_ret2
    exact⟨rfl,HS.out,Kept.setCell w ⟨b,0,none⟩ _⟩

theorem aHJ (b most:Nat)(l:List Nat)(bad:Bool)(w:World)(h:bT w b rb l bad)(hg:¬eJ most l)(hmost:most<18446744073709551616) :
  Calls Tryz.prog 225 #[.pointer (some ⟨b,0,none⟩),.int .u64 most] w fun e w'=>e = .returned (.int .u64 0)/\bT w' b rb [] true/\Kept w w' (fun k=>k=b):=by
 have H:=hid h;by_cases h0:l = []
 ·subst h0;clear h hg hmost;go_enter Tryz.func225,Tryz.ntmps225;go_wp2_with fail;refine(aF0 b bad _ H.out).mono ?_;rintro e w1 ⟨rfl,rfl⟩;go_wp2_with fail;refine(pY b [] bad _ H.out).mono ?_;rintro e w1 ⟨rfl,h1,h2⟩;have H1:=hid h1;have H2:=hid h2;clear h1 h2;go_wp2_with fail;go_ret;exact⟨rfl,H1.out,H2.out⟩
 ·have hne:=List.length_pos_iff.2 h0;have HNE:=hid hne;have hx:l.getD 0 0<256:=by obtain⟨v,_,hB,_⟩:=h.ex;exact hB.dB 0
  have hlen:(l.drop 1).length=l.length-1:=List.length_drop;have hd0:(l.drop 1).getD 0 0=l.getD 1 0:=by simp[List.getD_eq_getElem?_getD]
  by_cases hb:aBn (l.getD 0 0) (l.drop 1)
  ·have HB:=hid hb;have HX:=hid hx;clear h hg hmost hb h0 hne hlen hd0;generalize hxx:l.getD 0 0=x at HB HX hx;have HXX:=hid hxx;clear hxx;go_enter Tryz.func225,Tryz.ntmps225;go_wp2_with fail;refine(rD b l bad _ H.out HNE.out).mono ?_;rintro e w1 ⟨rfl,h1,k1⟩;rw[HXX.out];have H1:=hid h1;have K1:=hid k1;clear h1 k1;go_wp2_with fail;refine(aDY b x _ bad _ H1.out HB.out HX.out).mono ?_;rintro e w2 ⟨rfl,rfl⟩;go_wp2_with fail;refine(pY b _ bad _ H1.out).mono ?_;rintro e w2 ⟨rfl,h2,k2⟩;have H2:=hid h2;have K2:=hid k2;clear h2 k2;go_wp2_with fail;go_ret;exact⟨rfl,H2.out,K1.out.trans K2.out⟩
  ·have hgm:(most:Int)<((tN l:Nat):Int):=by
    have:¬iR l:=by unfold iR;unfold aBn at hb;rw[hlen,hd0]at hb;omega
    have:¬tN l<=most:=fun h=>hg ⟨this,h⟩;omega
   have HB:=hid hb;have HV:Hid (beN ((l.drop 1).take (l.getD 0 0))=tN l):=hid rfl;have HMOST:=hid hmost;clear h hg hb h0 hne hlen hd0 hmost;generalize hxx:l.getD 0 0=x at HB HV hx;have HXX:=hid hxx;clear hxx;go_enter Tryz.func225,Tryz.ntmps225;go_wp2_with fail;refine(rD b l bad _ H.out HNE.out).mono ?_;rintro e w1 ⟨rfl,h1,k1⟩;rw[HXX.out];have H1:=hid h1;have K1:=hid k1;clear h1 k1;go_wp2_with fail;refine(uX b x _ bad _ H1.out HB.out).mono ?_;rintro e w2 ⟨rfl,h2,k2⟩;rw[HV.out];have H2:=hid h2;have K2:=hid k2;clear h2 k2;go_wp2_with fail;refine(pY b _ bad _ H2.out).mono ?_;rintro e w3 ⟨rfl,h3,k3⟩;have H3:=hid h3;have K3:=hid k3;clear h3 k3;go_wp2_with fail;go_ret;exact⟨rfl,H3.out,(K1.out.trans K2.out).trans K3.out⟩

theorem aF2 (b most:Nat)(l:List Nat)(bad:Bool)(w:World)(h:bT w b rb l bad)(hg:eJ most l)(hmost:most<18446744073709551616) :
  Calls Tryz.prog 225 #[.pointer (some ⟨b,0,none⟩),.int .u64 most] w fun e w'=>e = .returned (.int .u64 (tN l))/\bT w' b rb (l.drop (l.getD 0 0+1)) bad/\Kept w w' (fun k=>k=b):=by
 have H:=hid h;have hnb:=hg.1;have hne:0<l.length:=by unfold iR at hnb;omega
 have HNE:=hid hne;have hx:l.getD 0 0<256:=by obtain⟨v,_,hB,_⟩:=h.ex;exact hB.dB 0
 have hlen:(l.drop 1).length=l.length-1:=List.length_drop;have hd0:(l.drop 1).getD 0 0=l.getD 1 0:=by simp[List.getD_eq_getElem?_getD]
 have hb:¬aBn (l.getD 0 0) (l.drop 1):=by unfold aBn;unfold iR at hnb;rw[hlen,hd0];omega
 have hgm:((tN l:Nat):Int)<=(most:Int):=by have:=hg.2;omega
 have HB:=hid hb;have HV:Hid (beN ((l.drop 1).take (l.getD 0 0))=tN l):=hid rfl;have HD:Hid ((l.drop 1).drop (l.getD 0 0)=l.drop (l.getD 0 0+1)):=hid (by rw[List.drop_drop];congr 1;omega);have HMOST:=hid hmost;clear h hg hb hne hlen hd0 hmost hnb;generalize hxx:l.getD 0 0=x at HB HV hx HD ⊢;have HXX:=hid hxx;clear hxx;go_enter Tryz.func225,Tryz.ntmps225;go_wp2_with fail;refine(rD b l bad _ H.out HNE.out).mono ?_;rintro e w1 ⟨rfl,h1,k1⟩;rw[HXX.out];have H1:=hid h1;have K1:=hid k1;clear h1 k1;go_wp2_with fail;refine(uX b x _ bad _ H1.out HB.out).mono ?_;rintro e w2 ⟨rfl,h2,k2⟩;rw[HV.out];rw[HD.out]at h2;have H2:=hid h2;have K2:=hid k2;clear h2 k2;go_wp2_with fail;go_ret;exact⟨rfl,H2.out,K1.out.trans K2.out⟩

theorem jQ (b:Nat)(m:Int)(l:List Nat)(bad:Bool)(w:World)(h:bT w b rb l bad)(hm0:0<=m)(hmost:m<18446744073709551616) :
  Calls Tryz.prog 225 #[.pointer (some ⟨b,0,none⟩),.int .u64 m] w fun e w'=>e = .returned (.int .u64 (bO m.toNat l))/\bT w' b rb (cI m.toNat l) (bad || cF m.toNat l)/\Kept w w' (fun k=>k=b):=by
 obtain⟨n,rfl⟩:=Int.eq_ofNat_of_zero_le hm0;rw[Int.toNat_natCast];unfold bO cI cF;by_cases hg:eJ n l
 ·simp only[if_pos hg,Bool.or_false];exact aF2 b n l bad w h hg (by omega)
 ·simp only[if_neg hg,Bool.or_true];exact aHJ b n l bad w h hg (by omega)
variable {rb:Nat}

theorem aHK (b n:Nat)(l:List Nat)(bad:Bool)(w:World)(h:bT w b rb l bad)(hn:n<=l.length) :
  Calls Tryz.prog 265 #[.pointer (some ⟨b,0,none⟩),.int .i64 n] w fun e w'=>∃v,e = .returned v/\Bytes w' v (l.take n)/\bT w' b rb (l.drop n) bad/\Kept w w' (fun k=>k=b):=by
 have H:=hid h;obtain⟨v,c0,hB,hvb⟩:=h.ex;have f0:=h.free0;obtain⟨v1,hB1,hcut1⟩:=hB.aFh Tryz.u8s n hn;obtain⟨v2,hB2,hv2,hcut2⟩:=hB.aAb Tryz.u8s n hn;have hv2':l.drop n = []\/v2.ownBlock=some rb:=by rw[hv2];exact hvb.imp (fun h=>by rw[h];simp) id
 have hlb:(l.length:Int)<=2097152:=by have:=hB.small;omega
 have hn':(n:Int)<=(l.length:Int):=by omega
 have hn0:¬(n:Int)<0:=by omega
 obtain⟨a,c,rfl,_⟩:=hB.shape;obtain⟨a2,c2,rfl,_⟩:=hB2.shape;rw[List.length_drop]at hcut2 hB2 hv2';have HB1:=hid hB1;have HB2:=hid hB2;have HV2:=hid hv2';have hs1:(ints (l.take n)).length<=2097152:=by rw[aS];exact hB1.small
 have HLN:Hid (([]:List Int).length+(ints (l.take n)).length<=4294967296):=hid (by simp only[List.length_nil];omega);have HC0:=hid c0;have HF0:=hid f0;have hbs:=h.lt;have HE:Hid (cC (w.alloc (.cells #[] 5)) w.heap.size 5 .u8 (.slice (some ⟨w.heap.size,0,none⟩) 0 0) []):=hid (cC.empty (heap_alloc_new _ _) (Nat.le_refl _));clear h hB hvb hn hB1 hB2 hv2 hv2' hs1;go_enter Tryz.func265,Tryz.ntmps265
 go_wp2_with (at_builtin;refine bS Tryz.u8s _ _ rfl w.heap.size _ _ [] _ rfl rfl HE.out (HB1.out.rd.alloc _) (by decide) HLN.out (by simp) rfl ?_;intro v3 w1 hown3 hgr3 hat3 hnil3 hbel3;have O1:Hid (cC w1 w.heap.size 5 .u8 v3 (ints (l.take n))):=hid (by simpa using hown3);have B1:Hid (Below w.heap.size w w1):=hid (((Below.refl _ _).alloc (Nat.le_refl _) _).trans hbel3);clear hown3 hgr3 hat3 hnil3 hbel3 c0 f0;have c0:=Below.at B1.out HC0.out H.out.lt;have f0:w1.frozen? ⟨b,0,none⟩=false:=(H.out.below B1.out).free0;have hbs1:b<w1.heap.size:=Nat.lt_of_lt_of_le hbs B1.out.size)
 have O2:Hid (Bytes w1 v3 (l.take n)):=hid (Bytes.dL O1.out HB1.out.lt HB1.out.small);have O3:Hid (v3.ownBlock≠some b):=hid fun e=>by have:=(O1.out.lt b e).1;have:=H.out.lt;omega
 go_ret;refine⟨_,rfl,O2.out.kept (Kept.setCell _ ⟨b,0,none⟩ _) fun k hk e=>O3.out (by rw[hk,e]),(H.out.below B1.out).set (HB2.out.below B1.out) HV2.out,?_⟩;exact(Kept.aL B1.out (S:=fun k=>k=b) (fun k h1 h2=>by omega)).trans (Kept.setCell _ ⟨b,0,none⟩ _)

theorem yC (b:Nat)(l:List Nat)(bad:Bool)(w:World)(h:bT w b rb l bad) :
  Calls Tryz.prog 226 #[.pointer (some ⟨b,0,none⟩)] w fun e w'=>e = .returned (.int .i64 (gV l bad))/\w=w':=by
 obtain⟨v,c0,hB,_⟩:=h.ex;have c1:=h.bad;have hlb:(l.length:Int)<=2097152:=by have:=hB.small;omega
 obtain⟨a,c,rfl,_⟩:=hB.shape;cases bad with
 | true =>
  have HE:Hid (gV l true=20):=hid (by simp[gV]);clear h hB;go_enter Tryz.func226,Tryz.ntmps226;go_wp2_with fail;go_ret;exact⟨by rw[HE.out];rfl,rfl⟩
 | false =>
  by_cases h0:0<l.length
  ·have HE:Hid (gV l false=20):=hid (if_pos (.inr h0));have hl:(0:Int)<(l.length:Int):=by omega
   clear h hB h0;go_enter Tryz.func226,Tryz.ntmps226;go_wp2_with fail;go_ret;exact⟨by rw[HE.out];rfl,rfl⟩
  ·have HE:Hid (gV l false=0):=hid (if_neg fun h=>h.elim (fun h=>by cases h) h0);have hl:¬(0:Int)<(l.length:Int):=by omega
   clear h hB h0;go_enter Tryz.func226,Tryz.ntmps226;go_wp2_with fail;go_ret;exact⟨by rw[HE.out];rfl,rfl⟩

theorem aAK (b most:Nat)(l:List Nat)(bad:Bool)(w:World)(h:bT w b rb l bad)(hm:most<=1000000) :
  Calls Tryz.prog 256 #[.pointer (some ⟨b,0,none⟩),.int .i64 most] w fun e w'=>e = .returned (.string (bX (dY most l)))/\bT w' b rb (iU most l) (bad || iT most l)/\Kept w w' (fun k=>k=b):=by
 have C:=hid (jQ b most l bad w h (by omega) (by omega));have hm':(most:Int)<=1000000:=by omega
 have hm0:¬(most:Int)<0:=by omega
 have hvm:((bO most l:Nat):Int)<=1000000:=by have:=fU most l;omega
 have HN:Hid ((most:Int).toNat=most):=hid (Int.toNat_natCast _);have hsm:(cI most l).length<=2097152:=by
  obtain⟨v,_,hB,_⟩:=h.ex;have:=aEV most l;have:=hB.small;omega
 have hll:((cI most l).length:Int)<=2097152:=by omega
 clear h hm hsm;by_cases hg:iB most l
 ·have hgi:((bO most l:Nat):Int)<=((cI most l).length:Int):=by unfold iB at hg;omega
  have HV:Hid (dY most l=(cI most l).take (bO most l)/\iU most l=(cI most l).drop (bO most l)/\iT most l=cF most l):=hid (by simp[dY,iU,iT,hg]);have HGL:Hid (bO most l<=(cI most l).length):=hid hg;clear hg;go_enter Tryz.func256,Tryz.ntmps256;go_wp2_with fail;refine C.out.mono ?_;rintro e w1 ⟨rfl,h1,h2⟩;rw[HN.out]at h1 ⊢;have H1:=hid h1;have H2:=hid h2;obtain⟨v,c0,hB,_⟩:=h1.ex;obtain⟨a,c,rfl,_⟩:=hB.shape;clear h1 h2 hB;go_wp2_with fail;refine(aHK b (bO most l) _ _ _ H1.out HGL.out).mono ?_;rintro e w3 ⟨v3,rfl,hB3,h3,k3⟩;have HB3:=hid hB3;have H3:=hid h3;have K3:=hid k3;clear hB3 h3 k3
  go_wp2_with (refine iC rfl 36 9 5 _ rfl Tryz.underlying36 Tryz.underlying5 Tryz.underlying9 _ _ rfl HB3.out ?_)
  go_ret;exact⟨by rw[HV.out.1];rfl,by rw[HV.out.2.1,HV.out.2.2];exact H3.out,H2.out.trans K3.out⟩
 ·have hgi:((cI most l).length:Int)<((bO most l:Nat):Int):=by unfold iB at hg;omega
  have HV:Hid (dY most l = []/\iU most l = []/\iT most l=true):=hid (by simp[dY,iU,iT,hg]);clear hg;go_enter Tryz.func256,Tryz.ntmps256;go_wp2_with fail;refine C.out.mono ?_;rintro e w1 ⟨rfl,h1,h2⟩;rw[HN.out]at h1 ⊢;have H1:=hid h1;have H2:=hid h2;obtain⟨v,c0,hB,_⟩:=h1.ex;obtain⟨a,c,rfl,_⟩:=hB.shape;clear h1 h2 hB;go_wp2_with fail;refine(pY b _ _ _ H1.out).mono ?_;rintro e w3 ⟨rfl,h3,k3⟩;have H3:=hid h3;have K3:=hid k3;clear h3 k3;go_wp2_with fail;go_ret;exact⟨by rw[HV.out.1];rfl,by rw[HV.out.2.1,HV.out.2.2,Bool.or_true];exact H3.out,H2.out.trans K3.out⟩
end Go.Proofs.YtjdglpcnkiioeaaGreat
namespace Go.Proofs.YtjdglpcnkiioeaaGreat
open Go.RowKit Go.Maps Go.Proofs.Own

def bJ (w:World)(sz:Nat)(v:Value)(rs:List (List Value)):Prop :=
 ∃a c,v = .slice a rs.length c/\rs.length<=c /\ ∀j (h:j<rs.length),∃b o,a=some ⟨b,o,none⟩/\b<w.heap.size /\ ∀i x,rs[j][i]? = some x->w.cell? ⟨b,o+j*sz+i,none⟩=some x
theorem bJ.kept {w w':World}{sz:Nat}{v:Value}{rs:List (List Value)}{S:Nat->Prop}(h:bJ w sz v rs)(hk:Kept w w' S)(hs:rs = [] \/ ∀b,v.ownBlock=some b -> ¬S b):bJ w' sz v rs:=by
 obtain⟨a,c,rfl,hl,hc⟩:=h;refine⟨a,c,rfl,hl,fun j hj=>?_⟩;obtain⟨b,o,rfl,h0,h1⟩:=hc j hj;refine⟨b,o,rfl,Nat.lt_of_lt_of_le h0 hk.size,fun i x hx=>hk.cell (h1 i x hx) ?_⟩;rcases hs with hs|hs
 ·subst hs;exact absurd hj (Nat.not_lt_zero j)
 ·exact hs b rfl
theorem bJ.below {w w':World}{sz:Nat}{v:Value}{rs:List (List Value)}(h:bJ w sz v rs)(hb:Below w.heap.size w w'):bJ w' sz v rs :=
 h.kept (Kept.aL hb (S:=fun _=>False) fun k h1 h2=>by omega) (.inr fun _ _ h=>h)
theorem bJ.nil (w:World)(sz:Nat):bJ w sz (.slice none 0 0) []:=⟨none,0,rfl,Nat.le_refl _,fun j h=>absurd h (Nat.not_lt_zero j)⟩
theorem bJ.shape {w:World}{sz:Nat}{v:Value}{rs:List (List Value)}(h:bJ w sz v rs):∃a c,v = .slice a rs.length c/\rs.length<=c:=let ⟨a,c,e,hl,_⟩:=h;⟨a,c,e,hl⟩
theorem bJ.at {w:World}{sz:Nat}{a:Option Addr}{n c:Nat}{rs:List (List Value)}(h:bJ w sz (.slice a n c) rs){j:Nat}(hj:j<rs.length):∃b o,a=some ⟨b,o,none⟩/\b<w.heap.size /\ ∀i x,rs[j][i]? = some x->w.cell? ⟨b,o+j*sz+i,none⟩=some x:=by
 obtain⟨a',c',e,_,hc⟩:=h;cases e;exact hc j hj
theorem lW (a:Option Addr)(lo hi m s n c:Nat):(Go.sliced a lo hi m s).ownBlock=(Value.slice a n c).ownBlock:=by
 unfold Go.sliced;split
 ·cases a<;>rfl
 ·cases a with
  | none=>rfl
  | some x =>
   obtain⟨b,o,s'⟩:=x;simp only[Option.map_some,Value.ownBlock,Addr.add];split<;>rfl
theorem bJ.aFi {P:Program}{t e:TypeId}{sz:Nat}(ht:P.underlying t=some (.slice e))(hz:(P.info? e).map (·.size)=some sz){w:World}{v:Value}{rs:List (List Value)}(h:bJ w sz v rs)(lo:Nat)(h1:lo<=rs.length) :
  ∃v',bJ w sz v' (rs.drop lo)/\v'.ownBlock=v.ownBlock /\ ∀w',(Instr.slice t v (Option.some (Value.int .i64 lo)) none none).run P w' = .ok v' w':=by
 obtain⟨a,c,rfl,hl,hc⟩:=h;obtain⟨i,hi,hs⟩:=Option.map_eq_some_iff.1 hz;have hel:P.elem t=e:=by simp[Program.elem,ht]
 have hlen:(rs.drop lo).length=rs.length-lo:=List.length_drop;refine⟨Go.sliced a lo rs.length c sz,⟨_,_,by rw[hlen];rfl,by rw[hlen];omega,fun j hj=>?_⟩,lW _ _ _ _ _ _ _,fun w'=>?_⟩
 ·rw[hlen]at hj;obtain⟨b,o,rfl,h0,h1⟩:=hc (lo+j) (by omega);refine⟨b,o+lo*sz,?_,h0,fun i x hx=>?_⟩
  ·rw[if_neg (by omega)];simp[Addr.add_lit]
  ·rw[show o+lo*sz+j*sz+i=o+(lo+j)*sz+i by rw[Nat.add_mul];omega];refine h1 i x ?_;rw[<- hx];simp
 ·rw[run_slice_l w' t a rs.length c (by rw[hel];exact ht) .i64 lo (by omega) (by omega),hel];simp[sizeOf,typeInfo,hi,hs,Result.andThen,go_sem]

end Go.Proofs.YtjdglpcnkiioeaaGreat
namespace Go.Proofs.Own
open Go Go.RowKit

structure dU (w:World)(base:Nat)(e:TypeId)(sz:Nat)(v:Value)(rs:List (List Value)):Prop where
 own:w.ownsRow base e sz v rs.length rs.flatten
 each:∀r ∈ rs,r.length=sz
theorem dU.nil (w:World)(base:Nat)(e:TypeId)(sz:Nat):dU w base e sz (.slice none 0 0) []:=⟨World.ownsRow_nil w base e sz,nofun⟩
theorem dU.lt {w:World}{base:Nat}{e:TypeId}{sz:Nat}{v:Value}{rs:List (List Value)}(h:dU w base e sz v rs):∀b,v.ownBlock=some b->base<=b/\b<w.heap.size:=World.ownsRow.lt h.own
theorem dU.shape {w:World}{base:Nat}{e:TypeId}{sz:Nat}{v:Value}{rs:List (List Value)}(h:dU w base e sz v rs):∃a c,v = .slice a rs.length c:=by
 rcases h.own.2 with ⟨rfl,h0⟩|⟨g,cap,cur,rfl,_⟩
 ·exact⟨none,0,by rw[h0]⟩
 ·exact⟨_,_,rfl⟩
theorem dU.kept {w w':World}{base:Nat}{e:TypeId}{sz:Nat}{v:Value}{rs:List (List Value)}{S:Nat->Prop}(h:dU w base e sz v rs)(hk:Kept w w' S)(hs:∀b,v.ownBlock=some b -> ¬S b):dU w' base e sz v rs:=by
 refine⟨⟨h.own.1,?_⟩,h.each⟩;rcases h.own.2 with hn|⟨g,cap,cur,rfl,hb,hg,r⟩
 ·exact .inl hn
 ·exact .inr ⟨g,cap,cur,rfl,hb,by rw[hk.block g (Array.getElem?_eq_some_iff.1 hg).1 (hs g rfl)];exact hg,r⟩
theorem dU.below {w w':World}{base:Nat}{e:TypeId}{sz:Nat}{v:Value}{rs:List (List Value)}(h:dU w base e sz v rs)(hb:Below w.heap.size w w'):dU w' base e sz v rs :=
 h.kept (Kept.aL hb (S:=fun _=>False) fun k h1 h2=>by omega) fun _ _ h=>h
theorem dU.alloc {w:World}{base:Nat}{e:TypeId}{sz:Nat}{v:Value}{rs:List (List Value)}(h:dU w base e sz v rs)(o:Obj):dU (w.alloc o) base e sz v rs:=h.below ((Below.refl _ _).alloc (Nat.le_refl _) o)
theorem kY {sz:Nat}:∀ {rs:List (List Value)},(∀r ∈ rs,r.length=sz) -> ∀ {j:Nat} (hj:j<rs.length) {i:Nat} {x:Value},rs[j][i]? = some x->rs.flatten[j*sz+i]? = some x
 | [],_,j,hj,_,_,_=>absurd hj (Nat.not_lt_zero j)
 | r::rs,h,j,hj,i,x,hx=>by
  have hr:r.length=sz:=h r List.mem_cons_self;cases j with
  | zero =>
   have hx':r[i]? = some x:=by simpa using hx
   have hi:i<r.length:=(List.getElem?_eq_some_iff.1 hx').1;rw[List.flatten_cons,Nat.zero_mul,Nat.zero_add,List.getElem?_append_left hi];exact hx'
  | succ j =>
   have hx':(rs[j]'(by simpa using hj))[i]? = some x:=by simpa using hx
   rw[List.flatten_cons,List.getElem?_append_right (by rw[hr,Nat.add_mul];omega),hr,show (j+1)*sz+i-sz=j*sz+i by rw[Nat.add_mul];omega];exact kY (fun q hq=>h q (List.mem_cons_of_mem _ hq)) _ hx'
theorem eX {sz:Nat}:∀ {rs:List (List Value)},(∀r ∈ rs,r.length=sz)->rs.flatten.length=rs.length*sz
 | [],_=>by simp
 | r::rs,h=>by
  rw[List.flatten_cons,List.length_append,h r List.mem_cons_self,eX fun q hq=>h q (List.mem_cons_of_mem _ hq),List.length_cons,Nat.add_mul];omega

structure eQ (P:Program)(t e:TypeId)(sz by':Nat):Prop where
 under:P.underlying t=some (.slice e)
 info:∃i z,P.info? e=some i/\i.zero=some z/\i.size=sz/\i.bytes=by'/\z.cells.size=sz
 pos:0<sz
 few:by'<=1024

theorem yF {P:Program}{t e:TypeId}{sz by':Nat}(I:eQ P t e sz by')(w:World)(ty:TypeId)(base:Nat)(v:Value)(rs:List (List Value))(g:Nat)(r:List Value)
  (hown:dU w base e sz v rs) (hr:r.length=sz) (hc:∀j u,r[j]? = some u->w.cell? ⟨g,j,none⟩=some u) (h1:∀u ∈ r,u.oneCell'=true) (hlen:rs.length<=4294967296) (hbase:base<=w.heap.size) :
  ∃v' w',(Builtin.append_ #[t,t] ty #[v,.slice (some ⟨g,0,none⟩) 1 1]).run P w = .ok v' w'/\dU w' base e sz v' (rs ++ [r])/\w.grownBy w' v.ownBlock/\(v'.ownBlock=v.ownBlock\/v'.ownBlock=some w.heap.size)/\Below base w w':=by
 obtain⟨i,z,hi,hz,hs,hb,hzs⟩:=I.info;obtain⟨v',w',hrun,g1,g2,_,g4⟩:=run_append_own_at (P:=P) w base t ty e i z sz by' I.under hi hz hs hb hzs I.pos v rs.length rs.flatten hown.own ⟨g,0,none⟩ 1 1 r (by rw[hr];omega)
  (fun j u hu=>by rw[Addr.add_lit,Nat.zero_add];exact hc j u hu) h1 (by unfold maxLen;omega) (by have:=Nat.mul_le_mul (show rs.length+1<=4294967297 by omega) I.few;omega) hbase
 refine⟨v',w',hrun,⟨by rw[List.length_append,List.flatten_append];simpa using g1,?_⟩,g2,g4,(Below.refl _ _).grown g2 hbase fun k hk=>(hown.lt k hk).1⟩;intro q hq;rcases List.mem_append.1 hq with hq|hq
 ·exact hown.each q hq
 ·obtain rfl:=List.mem_singleton.1 hq;exact hr

section
variable {P:Program} {t e:TypeId} {sz by':Nat} (I:eQ P t e sz by') {w:World} {o:Oper} {a:Act} {Q:Exit->Act->World->Prop} (s x:Operand)
 (ho:o.op = .call { callee:=.builtin .append,args:=#[s,x],argTypes:=#[t,t] }) (base:Nat) (v:Value) (rs:List (List Value)) (g:Nat) (r:List Value) (hs:a.eval s=v) (hx:a.eval x = .slice (some ⟨g,0,none⟩) 1 1)
 (hown:dU w base e sz v rs) (hr:r.length=sz) (hc:∀j u,r[j]? = some u->w.cell? ⟨g,j,none⟩=some u) (h1:∀u ∈ r,u.oneCell'=true) (hlen:rs.length<=4294967296) (hbase:base<=w.heap.size)
include I ho hs hx hown hr hc h1 hlen hbase
theorem zT {K:Act->World->Prop}
  (h:∀v' w',dU w' base e sz v' (rs ++ [r])->w.grownBy w' v.ownBlock->(v'.ownBlock=v.ownBlock\/v'.ownBlock=some w.heap.size)->Below base w w'->K (a.put o.dst v') w'):o.wp P a w K Q:=by
 obtain⟨v',w',hrun,k1,k2,k3,k4⟩:=yF I w o.type base v rs g r hown hr hc h1 hlen hbase;unfold Oper.wp execOp;simp only[ho,resolve,invoke,builtin,Sem.run_bind,Sem.run_pure,Result.andThen_ok,List.map_toArray,List.map_cons,List.map_nil,hs,hx,hrun];exact h v' w' k1 k2 k3 k4
theorem fA {ops:Array Oper}{rest:List Oper}(hgd:o.guard=none)
  (h:∀v' w',dU w' base e sz v' (rs ++ [r])->w.grownBy w' v.ownBlock->(v'.ownBlock=v.ownBlock\/v'.ownBlock=some w.heap.size)->Below base w w'->wpList P ops Q rest (a.put o.dst v') w') :
  wpList P ops Q (o::rest) a w :=
 wpList_plain hgd fun _ hK=>zT I s x ho base v rs g r hs hx hown hr hc h1 hlen hbase fun v' w' k1 k2 k3 k4=>hK _ _ (h v' w' k1 k2 k3 k4)
end
end Go.Proofs.Own
namespace Go.Proofs.YtjdglpcnkiioeaaGreat
open Go.RowKit Go.Maps Go.Proofs.Own
theorem bJ.gH {w:World}{base:Nat}{e:TypeId}{sz:Nat}{v:Value}{rs:List (List Value)}(h:dU w base e sz v rs):bJ w sz v rs:=by
 have hw:=h.own;rcases h.own.2 with ⟨rfl,h0⟩|⟨g,cap,cur,rfl,_,hg,hn,_⟩
 ·have:rs = []:=List.eq_nil_of_length_eq_zero h0;subst this;exact bJ.nil w sz
 ·refine⟨_,_,rfl,hn,fun j hj=>⟨g,0,rfl,(Array.getElem?_eq_some_iff.1 hg).1,fun i x hx=>?_⟩⟩;rw[Nat.zero_add];have hf:=kY h.each hj hx;have hlt:j*sz+i<rs.length*sz:=by
   have:=(List.getElem?_eq_some_iff.1 hf).1
   rwa [eX h.each]at this
  rw[hw.cellAt (j*sz+i) hlt];exact hf
end Go.Proofs.YtjdglpcnkiioeaaGreat
namespace Go.Proofs.Own
open Go Go.RowKit Go.Proofs.YtjdglpcnkiioeaaGreat

theorem uL {sz:Nat}(h0:0<sz):∀ {rs:List (List Value)},(∀r ∈ rs,r.length=sz) -> ∀ {j:Nat} {u:Value},rs.flatten[j]? = some u -> ∃(k:Nat) (hk:k<rs.length) (i:Nat),j=k*sz+i/\rs[k][i]? = some u
 | [],_,j,u,h=>by simp at h
 | r::rs,hr,j,u,h=>by
  have hl:r.length=sz:=hr r List.mem_cons_self;rw[List.flatten_cons]at h;by_cases hj:j<sz
  ·rw[List.getElem?_append_left (by omega)]at h;exact⟨0,by simp,j,by omega,h⟩
  ·rw[List.getElem?_append_right (by omega),hl]at h;obtain⟨k,hk,i,e,h2⟩:=uL h0 (fun q hq=>hr q (List.mem_cons_of_mem _ hq)) h;refine⟨k+1,by simpa using hk,i,?_,by simpa using h2⟩;rw[Nat.add_mul];omega
theorem aAQ {w:World}{sz:Nat}(h0:0<sz){ad:Addr}{n c:Nat}{rs:List (List Value)}(h:bJ w sz (.slice (some ad) n c) rs)(hr:∀r ∈ rs,r.length=sz):∀j u,rs.flatten[j]? = some u->w.cell? (ad.add j)=some u:=by
 intro j u hu;obtain⟨k,hk,i,rfl,h2⟩:=uL h0 hr hu;obtain⟨b,o,e,_,h3⟩:=h.at hk;obtain rfl:=Option.some.inj e;rw[Addr.add_lit,<- Nat.add_assoc];exact h3 i u h2
theorem vK {P:Program}{t e:TypeId}{sz by':Nat}(I:eQ P t e sz by')(w:World)(ty:TypeId)(base:Nat)(v x:Value)(rs ns:List (List Value))
  (hown:dU w base e sz v rs) (hs:bJ w sz x ns) (hr:∀r ∈ ns,r.length=sz) (h1:∀r ∈ ns,∀u ∈ r,u.oneCell'=true) (hlen:rs.length+ns.length<=4294967296) (hbase:base<=w.heap.size) :
  ∃v' w',(Builtin.append_ #[t,t] ty #[v,x]).run P w = .ok v' w'/\dU w' base e sz v' (rs++ns)/\w.grownBy w' v.ownBlock/\(v'.ownBlock=v.ownBlock\/v'.ownBlock=some w.heap.size)/\Below base w w':=by
 obtain⟨i,z,hi,hz,hsz,hb,hzs⟩:=I.info;have hsr:=hs;obtain⟨a,c,rfl,hc,hcell⟩:=hs;cases a with
 | some ad =>
  obtain⟨v',w',hrun,g1,g2,_,g4⟩:=run_append_own_at (P:=P) w base t ty e i z sz by' I.under hi hz hsz hb hzs I.pos v rs.length rs.flatten hown.own ad ns.length c ns.flatten (eX hr)
   (aAQ I.pos hsr hr) (fun u hu=>by
    obtain⟨r,h2,h3⟩:=List.mem_flatten.1 hu;exact h1 r h2 u h3) (by unfold maxLen;omega) (by have:=Nat.mul_le_mul (show rs.length+ns.length<=4294967296 by omega) I.few;omega) hbase
  refine⟨v',w',hrun,⟨by rw[List.length_append,List.flatten_append];exact g1,?_⟩,g2,g4,(Below.refl _ _).grown g2 hbase fun k hk=>(hown.lt k hk).1⟩;intro q hq;rcases List.mem_append.1 hq with hq|hq
  ·exact hown.each q hq
  ·exact hr q hq
 | none =>
  have hns:ns = []:=by
   rcases ns with _|⟨n,ns⟩
   ·rfl
   ·obtain⟨b,o,h,_⟩:=hcell 0 (by simp);cases h
  subst hns;refine⟨v,w,?_,by simpa using hown,World.grownBy.refl _ _,.inl rfl,Below.refl _ _⟩;rcases hown.own.2 with ⟨rfl,_⟩|⟨g,cap,cur,rfl,_,_,hnc,_⟩
  ·simp[Builtin.append_,run_underlying I.under,sizeOf,typeInfo,hi,Builtin.lenOf,Builtin.firstCells]
  ·simp[Builtin.append_,run_underlying I.under,sizeOf,typeInfo,hi,Builtin.lenOf,Builtin.firstCells,hnc,storeCells]

section
variable {P:Program} {t e:TypeId} {sz by':Nat} (I:eQ P t e sz by') {w:World} {o:Oper} {a:Act} {Q:Exit->Act->World->Prop} (s x:Operand)
 (ho:o.op = .call { callee:=.builtin .append,args:=#[s,x],argTypes:=#[t,t] }) (base:Nat) (v xv:Value) (rs ns:List (List Value)) (hs:a.eval s=v) (hx:a.eval x=xv)
 (hown:dU w base e sz v rs) (hsr:bJ w sz xv ns) (hr:∀r ∈ ns,r.length=sz) (h1:∀r ∈ ns,∀u ∈ r,u.oneCell'=true) (hlen:rs.length+ns.length<=4294967296) (hbase:base<=w.heap.size)
include I ho hs hx hown hsr hr h1 hlen hbase
theorem zI {K:Act->World->Prop}
  (h:∀v' w',dU w' base e sz v' (rs++ns)->w.grownBy w' v.ownBlock->(v'.ownBlock=v.ownBlock\/v'.ownBlock=some w.heap.size)->Below base w w'->K (a.put o.dst v') w'):o.wp P a w K Q:=by
 obtain⟨v',w',hrun,k1,k2,k3,k4⟩:=vK I w o.type base v xv rs ns hown hsr hr h1 hlen hbase;unfold Oper.wp execOp;simp only[ho,resolve,invoke,builtin,Sem.run_bind,Sem.run_pure,Result.andThen_ok,List.map_toArray,List.map_cons,List.map_nil,hs,hx,hrun];exact h v' w' k1 k2 k3 k4
theorem lK {ops:Array Oper}{rest:List Oper}(hgd:o.guard=none)
  (h:∀v' w',dU w' base e sz v' (rs++ns)->w.grownBy w' v.ownBlock->(v'.ownBlock=v.ownBlock\/v'.ownBlock=some w.heap.size)->Below base w w'->wpList P ops Q rest (a.put o.dst v') w') :
  wpList P ops Q (o::rest) a w :=
 wpList_plain hgd fun _ hK=>zI I s x ho base v xv rs ns hs hx hown hsr hr h1 hlen hbase fun v' w' k1 k2 k3 k4=>hK _ _ (h v' w' k1 k2 k3 k4)
end

structure cM (w:World)(e:TypeId)(sz:Nat)(v:Value)(rs:List (List Value)):Prop where
 own:(v = .slice none 0 0/\rs = []) \/ ∃g cap cur,v = .slice (some ⟨g,0,none⟩) rs.length cap/\w.heap[g]? = some (.cells cur e (0,0))/\rs.length<=cap/\cap<=maxLen/\cap*sz<=cur.size/\cur.toList.take (rs.length*sz)=rs.flatten /\ ∀x,Value.int .u8 x ∉ cur.toList
 each:∀r ∈ rs,r.length=sz
theorem cM.nil (w:World)(e:TypeId)(sz:Nat):cM w e sz (.slice none 0 0) []:=⟨.inl ⟨rfl,rfl⟩,nofun⟩
def No8 (l:List Value):Prop:=∀x,Value.int .u8 x ∉ l
theorem No8.app {l m:List Value}(h:No8 l)(g:No8 m):No8 (l++m):=fun x hx=>(List.mem_append.1 hx).elim (h x) (g x)
theorem No8.take {l:List Value}(h:No8 l)(n:Nat):No8 (l.take n):=fun x hx=>h x (List.mem_of_mem_take hx)
theorem No8.drop {l:List Value}(h:No8 l)(n:Nat):No8 (l.drop n):=fun x hx=>h x (List.mem_of_mem_drop hx)
theorem No8.zero {z:Array Value}(h:No8 z.toList)(n:Nat):No8 (Builtin.zeroCells z n).toList:=by
 intro x hx;unfold Builtin.zeroCells at hx;rw[Array.mem_toList_iff,Array.mem_map]at hx;obtain⟨k,hk,e⟩:=hx;rw[Array.mem_range]at hk;have hz:0<z.size:=Nat.pos_of_ne_zero fun e=>by rw[e,Nat.mul_zero]at hk;omega
 have hlt:=Nat.mod_lt k hz;rw[getElem!_pos z (k % z.size) hlt]at e;refine h x ?_;rw[<- e];exact Array.mem_toList_iff.2 (Array.getElem_mem hlt)
theorem cM.made {w:World}{g:Nat}{e:TypeId}{sz:Nat}(hg:w.heap[g]? = some (.cells #[] e (0,0))):cM w e sz (.slice (some ⟨g,0,none⟩) 0 0) [] :=
 ⟨.inr ⟨g,0,#[],rfl,hg,Nat.le_refl _,Nat.zero_le _,by simp,by simp,by simp⟩,nofun⟩
theorem cM.shape {w:World}{e:TypeId}{sz:Nat}{v:Value}{rs:List (List Value)}(h:cM w e sz v rs):∃a c,v = .slice a rs.length c/\rs.length<=c:=by
 rcases h.own with ⟨rfl,rfl⟩|⟨g,cap,cur,rfl,_,hn,_⟩
 ·exact⟨none,0,rfl,Nat.le_refl _⟩
 ·exact⟨_,_,rfl,hn⟩
theorem cM.lt {w:World}{e:TypeId}{sz:Nat}{v:Value}{rs:List (List Value)}(h:cM w e sz v rs):∀b,v.ownBlock=some b->b<w.heap.size:=by
 intro b hb;rcases h.own with ⟨rfl,_⟩|⟨g,cap,cur,rfl,hg,_⟩
 ·cases hb
 ·obtain rfl:g=b:=Option.some.inj hb;exact(Array.getElem?_eq_some_iff.1 hg).1
theorem cM.no8 {w:World}{e:TypeId}{sz:Nat}{v:Value}{rs:List (List Value)}(h:cM w e sz v rs){b:Nat}(hb:v.ownBlock=some b):∃cur fz,w.heap[b]? = some (.cells cur e fz)/\No8 cur.toList:=by
 rcases h.own with ⟨rfl,_⟩|⟨g,cap,cur,rfl,hg,_,_,_,_,h8⟩
 ·cases hb
 ·obtain rfl:g=b:=Option.some.inj hb;exact⟨cur,_,hg,h8⟩
theorem cM.kept {w w':World}{e:TypeId}{sz:Nat}{v:Value}{rs:List (List Value)}{S:Nat->Prop}(h:cM w e sz v rs)(hk:Kept w w' S)(hs:∀b,v.ownBlock=some b -> ¬S b):cM w' e sz v rs:=by
 refine⟨?_,h.each⟩;rcases h.own with hn|⟨g,cap,cur,rfl,hg,r⟩
 ·exact .inl hn
 ·exact .inr ⟨g,cap,cur,rfl,by rw[hk.block g (Array.getElem?_eq_some_iff.1 hg).1 (hs g rfl)];exact hg,r⟩
theorem cM.below {w w':World}{e:TypeId}{sz:Nat}{v:Value}{rs:List (List Value)}(h:cM w e sz v rs)(hb:Below w.heap.size w w'):cM w' e sz v rs :=
 h.kept (Kept.aL hb (S:=fun _=>False) fun k h1 h2=>by omega) fun _ _ h=>h
theorem aHt {w:World}{g j:Nat}{cur:Array Value}{e:TypeId}{u:Value}{fz:Nat × Nat}(hg:w.heap[g]? = some (.cells cur e fz))(hc:cur.toList[j]? = some u):w.cell? ⟨g,j,none⟩=some u:=by
 have h:cur[j]? = some u:=by rw[<- hc];simp
 simp[World.cell?,hg,h]
theorem cM.flat {w:World}{e:TypeId}{sz g n c:Nat}{rs:List (List Value)}(h:cM w e sz (.slice (some ⟨g,0,none⟩) n c) rs):∀j u,rs.flatten[j]? = some u->w.cell? ((⟨g,0,none⟩:Addr).add j)=some u:=by
 intro j u hu;rcases h.own with ⟨e1,_⟩|⟨g',cap,cur,e1,hg,hn,_,hs,ht⟩
 ·cases e1
 ·cases e1;rw[Addr.add_lit,Nat.zero_add];refine aHt hg ?_;rw[<- ht.1]at hu;have hlt:=(List.getElem?_eq_some_iff.1 hu).1;rw[List.length_take]at hlt;rw[List.getElem?_take_of_lt (by omega)]at hu;exact hu
theorem cM.qG {w:World}{e:TypeId}{sz:Nat}{v:Value}{rs:List (List Value)}(h:cM w e sz v rs):bJ w sz v rs:=by
 have hw:=h;rcases h.own with ⟨rfl,rfl⟩|⟨g,cap,cur,rfl,hg,hn,_⟩
 ·exact bJ.nil w sz
 ·refine⟨_,_,rfl,hn,fun j hj=>⟨g,0,rfl,(Array.getElem?_eq_some_iff.1 hg).1,fun i x hx=>?_⟩⟩;have:=hw.flat (j*sz+i) x (kY h.each hj hx)
  rwa [Addr.add_lit,<- Nat.add_assoc]at this
theorem uM {sz:Nat}(u:Value){i:Nat}(hi:i<sz):∀ {rs:List (List Value)},(∀r ∈ rs,r.length=sz) -> ∀ {k:Nat} (hk:k<rs.length),(rs.set k (rs[k].set i u)).flatten=rs.flatten.set (k*sz+i) u
 | [],_,k,hk=>absurd hk (Nat.not_lt_zero k)
 | r::rs,h,k,hk=>by
  have hr:r.length=sz:=h r List.mem_cons_self;cases k with
  | zero =>
   rw[List.set_cons_zero,List.flatten_cons,List.flatten_cons,Nat.zero_mul,Nat.zero_add,List.set_append_left _ _ (by omega)];rfl
  | succ k =>
   have ih:=uM u hi (rs:=rs) (fun q hq=>h q (List.mem_cons_of_mem _ hq)) (k:=k) (by simpa using hk);rw[List.set_cons_succ,List.flatten_cons,List.flatten_cons,List.set_append_right _ _ (by rw[Nat.add_mul];omega),hr,show (k+1)*sz+i-sz=k*sz+i by rw[Nat.add_mul];omega,<- ih];rfl
theorem cM.stored {w:World}{e:TypeId}{sz g n c:Nat}{rs:List (List Value)}(h:cM w e sz (.slice (some ⟨g,0,none⟩) n c) rs){k i:Nat}(hk:k<rs.length)(hi:i<sz){u:Value}(hu:∀x,u ≠ .int .u8 x) :
  cM (w.setCell ⟨g,k*sz+i,none⟩ u) e sz (.slice (some ⟨g,0,none⟩) n c) (rs.set k (rs[k].set i u)):=by
 refine⟨?_,fun r hr=>?_⟩
 ·rcases h.own with ⟨e1,_⟩|⟨g',cap,cur,e1,hg,hn,hc,hs,ht,h8⟩
  ·cases e1
  ·cases e1;refine .inr ⟨g,c,cur.setIfInBounds (k*sz+i) u,by rw[List.length_set],heap_setCell_same w g (k*sz+i) cur e u hg,by rw[List.length_set];exact hn,hc,by simpa using hs,?_,fun x hx=>?_⟩
   ·rw[Array.toList_setIfInBounds,List.take_set,List.length_set,ht,uM u hi h.each hk]
   ·rw[Array.toList_setIfInBounds]at hx;rcases List.mem_or_eq_of_mem_set hx with hx|hx
    ·exact h8 x hx
    ·exact hu x hx.symm
 ·rcases List.mem_or_eq_of_mem_set hr with hr|rfl
  ·exact h.each r hr
  ·rw[List.length_set];exact h.each _ (List.getElem_mem hk)
theorem cM.shrink {w:World}{e:TypeId}{sz:Nat}{a:Option Addr}{n c:Nat}{rs:List (List Value)}(h:cM w e sz (.slice a n c) rs){k:Nat}(hk:k<=rs.length):cM w e sz (.slice a k k) (rs.take k):=by
 have hlen:(rs.take k).length=k:=by rw[List.length_take];omega
 refine⟨?_,fun r hr=>h.each r (List.mem_of_mem_take hr)⟩;rcases h.own with ⟨e1,e2⟩|⟨g,cap,cur,e1,hg,hn,hc,hs,ht⟩
 ·cases e1;subst e2;obtain rfl:k=0:=Nat.le_zero.1 hk;exact .inl ⟨rfl,rfl⟩
 ·cases e1;refine .inr ⟨g,k,cur,by rw[hlen],hg,by omega,by omega,?_,?_,ht.2⟩
  ·have:=Nat.mul_le_mul_right sz (show k<=c by omega);omega
  ·rw[hlen];have h1:rs.flatten.take (k*sz)=(rs.take k).flatten:=by
    have h2:=eX (rs:=rs.take k) (sz:=sz) fun r hr=>h.each r (List.mem_of_mem_take hr);rw[hlen]at h2
    conv=>lhs;rw[<- List.take_append_drop k rs,List.flatten_append,<- h2]
    exact List.take_left' rfl
   rw[<- h1,<- ht.1,List.take_take]
   congr 1
   have:=Nat.mul_le_mul_right sz hk;omega
def aBN (P:Program)(e:TypeId):Prop:=∀i z,P.info? e=some i->i.zero=some z->No8 z.cells.toList
theorem oI {P:Program}{t e:TypeId}{sz by':Nat}(I:eQ P t e sz by')(w:World)(ty:TypeId)(v x:Value)(rs ns:List (List Value))
  (hown:cM w e sz v rs) (hs:bJ w sz x ns) (hr:∀r ∈ ns,r.length=sz) (h1:∀r ∈ ns,∀u ∈ r,u.oneCell'=true) (h8:No8 ns.flatten) (hz8:aBN P e) (hlen:rs.length+ns.length<=4294967296) :
  ∃v' w',(Builtin.append_ #[t,t] ty #[v,x]).run P w = .ok v' w'/\cM w' e sz v' (rs++ns)/\w.grownBy w' v.ownBlock/\(v'.ownBlock=v.ownBlock\/v'.ownBlock=some w.heap.size):=by
 obtain⟨i,z,hi,hz,hsz,hb,hzs⟩:=I.info;have hu:=I.under;have hsr:=hs;have hdst:=hown;have hbytes:(rs.length+ns.length)*i.bytes<=140737488355328:=by
  have:=Nat.mul_le_mul (show rs.length+ns.length<=4294967296 by omega) I.few;rw[hb];omega
 have heach:∀r ∈ rs++ns,r.length=sz:=fun q hq=>(List.mem_append.1 hq).elim (hown.each q) (hr q);obtain⟨a,c,rfl,hc,hcell⟩:=hs;cases a with
 | none =>
  have hns:ns = []:=by
   rcases ns with _|⟨n,ns⟩
   ·rfl
   ·obtain⟨b,o,h,_⟩:=hcell 0 (by simp);cases h
  subst hns;refine⟨v,w,?_,by simpa using hown,World.grownBy.refl _ _,.inl rfl⟩;rcases hown.own with ⟨rfl,_⟩|⟨g,cap,cur,rfl,_,hnc,_⟩
  ·simp[Builtin.append_,run_underlying hu,sizeOf,typeInfo,hi,Builtin.lenOf,Builtin.firstCells]
  ·simp[Builtin.append_,run_underlying hu,sizeOf,typeInfo,hi,Builtin.lenOf,Builtin.firstCells,hnc,storeCells]
 | some ad =>
  have hnl:ns.flatten.length=ns.length*sz:=eX hr;have hnc:=aAQ I.pos hsr hr;have hn1:∀u ∈ ns.flatten,u.oneCell'=true:=fun u hu=>by
   obtain⟨r,h2,h3⟩:=List.mem_flatten.1 hu;exact h1 r h2 u h3
  rcases hown.own with ⟨rfl,rfl⟩|⟨g,cap,cur,rfl,hg,hn,hcm,hcs,ht⟩
  ·by_cases h0:ns = []
   ·subst h0;refine⟨.slice none 0 0,w,?_,cM.nil _ _ _,World.grownBy.refl _ _,.inl rfl⟩;simp[Builtin.append_,run_underlying hu,sizeOf,typeInfo,hi,Builtin.lenOf,Builtin.firstCells,loadCells,loadCellsFrom]
   ·have hp:=List.length_pos_iff.2 h0;have h00:([]:List (List Value)).length=0:=rfl;rw[h00,Nat.zero_add]at hbytes hlen;have hrun:=run_append_nil (P:=P) w t ty e i z hu hi hz ad ns.length c ns.flatten (by rw[hnl,hsz]) hnc hp (by omega) (by omega);have hge:=grownCap_ge w ns.length 0 e;have hcm2:grownCap w ns.length 0 e<=maxLen:=grownCap_le_maxLen w ns.length 0 e (by unfold maxLen;omega);refine⟨_,_,hrun,⟨.inr ⟨w.heap.size,_,_,rfl,heap_alloc_new w.drew _,hge,hcm2,?_,?_,?_⟩,heach⟩,⟨rfl,rfl,rfl,by simp,fun k hk _=>Go.heap_alloc_old w.drew _ hk⟩,.inr rfl⟩
    ·simp only[Array.size_append,List.size_toArray,size_zeroCells,hzs,hnl,<- Nat.add_mul];refine Nat.mul_le_mul_right sz ?_;omega
    ·simp only[Array.toList_append,List.nil_append];rw[<- hnl];exact List.take_left
    ·rw[Array.toList_append];exact h8.app (No8.zero (hz8 i z hi hz) _)
  ·by_cases hroom:rs.length+ns.length<=cap
   ·have hm:=Nat.mul_le_mul_right sz hroom;rw[Nat.add_mul]at hm;have hfit:rs.length*i.size+ns.flatten.length<=cur.size:=by rw[hnl,hsz];omega
    have hrun:=run_append_room (P:=P) w t ty e i hu hi g rs.length cap cur hg ad ns.length c ns.flatten (by rw[hnl,hsz]) hnc hn1 hroom hfit;refine⟨_,_,hrun,⟨.inr ⟨g,cap,_,by rw[List.length_append],setRow_heap w g cur _ e _ hg,by rw[List.length_append];exact hroom,hcm,?_,?_,?_⟩,heach⟩,⟨rfl,rfl,rfl,by simp,fun k _ hk=>setRow_other w g k _ (fun e=>hk (by simp[Value.ownBlock,e]))⟩,.inl rfl⟩
    ·simp only[List.size_toArray,List.length_append,List.length_take,List.length_drop,Array.length_toList];rw[hnl,hsz]at *
     omega
    ·rw[hsz,ht.1,List.flatten_append,List.length_append,show (rs.length+ns.length)*sz=(rs.flatten++ns.flatten).length by rw[List.length_append,eX hown.each,hnl,Nat.add_mul]];exact List.take_left
    ·have h2:No8 cur.toList:=ht.2;exact((h2.take _).app h8).app (h2.drop _)
   ·have hrun:=run_append_grow (P:=P) w t ty e i z hu hi hz ⟨g,0,none⟩ rs.length cap rs.flatten (by rw[eX hown.each,hsz]) hdst.flat ad ns.length c ns.flatten (by rw[hnl,hsz]) hnc (by omega) (by omega) (growslice_fits (by omega) hbytes);have hge:=grownCap_ge w (rs.length+ns.length) cap e;have hcm2:grownCap w (rs.length+ns.length) cap e<=maxLen:=grownCap_le_maxLen w (rs.length+ns.length) cap e (by unfold maxLen;omega);refine⟨_,_,hrun,⟨.inr ⟨w.heap.size,_,_,by rw[List.length_append],heap_alloc_new w.drew _,by rw[List.length_append];exact hge,hcm2,?_,?_,?_⟩,heach⟩,⟨rfl,rfl,rfl,by simp,fun k hk _=>Go.heap_alloc_old w.drew _ hk⟩,.inr rfl⟩
    ·simp only[Array.size_append,List.size_toArray,size_zeroCells,hzs,eX hown.each,hnl,<- Nat.add_mul];refine Nat.mul_le_mul_right sz ?_;omega
    ·simp only[Array.toList_append,List.append_assoc];rw[<- List.append_assoc,List.flatten_append,List.length_append,show (rs.length+ns.length)*sz=(rs.flatten++ns.flatten).length by rw[List.length_append,eX hown.each,hnl,Nat.add_mul]];exact List.take_left
    ·simp only[Array.toList_append];refine No8.app ?_ (No8.zero (hz8 i z hi hz) _);have h2:No8 cur.toList:=ht.2;have h3:=h2.take (rs.length*sz);rw[ht.1]at h3;exact h3.app h8
section
variable {P:Program} {t e:TypeId} {sz by':Nat} (I:eQ P t e sz by') {w:World} {o:Oper} {a:Act} {Q:Exit->Act->World->Prop} (s x:Operand)
 (ho:o.op = .call { callee:=.builtin .append,args:=#[s,x],argTypes:=#[t,t] }) (v xv:Value) (rs ns:List (List Value)) (hs:a.eval s=v) (hx:a.eval x=xv)
 (hown:cM w e sz v rs) (hsr:bJ w sz xv ns) (hr:∀r ∈ ns,r.length=sz) (h1:∀r ∈ ns,∀u ∈ r,u.oneCell'=true) (h8:No8 ns.flatten) (hz8:aBN P e) (hlen:rs.length+ns.length<=4294967296)
include I ho hs hx hown hsr hr h1 h8 hz8 hlen
theorem zH {K:Act->World->Prop}
  (h:∀v' w',cM w' e sz v' (rs++ns)->w.grownBy w' v.ownBlock->(v'.ownBlock=v.ownBlock\/v'.ownBlock=some w.heap.size)->K (a.put o.dst v') w'):o.wp P a w K Q:=by
 obtain⟨v',w',hrun,k1,k2,k3⟩:=oI I w o.type v xv rs ns hown hsr hr h1 h8 hz8 hlen;unfold Oper.wp execOp;simp only[ho,resolve,invoke,builtin,Sem.run_bind,Sem.run_pure,Result.andThen_ok,List.map_toArray,List.map_cons,List.map_nil,hs,hx,hrun];exact h v' w' k1 k2 k3
theorem dF {ops:Array Oper}{rest:List Oper}(hgd:o.guard=none)
  (h:∀v' w',cM w' e sz v' (rs++ns)->w.grownBy w' v.ownBlock->(v'.ownBlock=v.ownBlock\/v'.ownBlock=some w.heap.size)->wpList P ops Q rest (a.put o.dst v') w') :
  wpList P ops Q (o::rest) a w :=
 wpList_plain hgd fun _ hK=>zH I s x ho v xv rs ns hs hx hown hsr hr h1 h8 hz8 hlen fun v' w' k1 k2 k3=>hK _ _ (h v' w' k1 k2 k3)
end
end Go.Proofs.Own
namespace Go.Proofs.YtjdglpcnkiioeaaGreat
open Go.RowKit Go.Maps Go.Proofs.Own

theorem bJ.sliced {w:World}{sz:Nat}{a:Option Addr}{n c:Nat}{rs:List (List Value)}(h:bJ w sz (.slice a n c) rs)(lo hi m:Nat)(h1:lo<=hi)(h2:hi<=rs.length)(h3:hi<=m):bJ w sz (Go.sliced a lo hi m sz) ((rs.take hi).drop lo):=by
 obtain⟨a',c',e,hl,hc⟩:=h;cases e;have hlen:((rs.take hi).drop lo).length=hi-lo:=by rw[List.length_drop,List.length_take];omega
 refine⟨_,_,by rw[hlen];rfl,by rw[hlen];omega,fun j hj=>?_⟩;rw[hlen]at hj;obtain⟨b,o,rfl,h0,h4⟩:=hc (lo+j) (by omega);refine⟨b,o+lo*sz,?_,h0,fun i x hx=>?_⟩
 ·rw[if_neg (by omega)];simp[Addr.add_lit]
 ·rw[show o+lo*sz+j*sz+i=o+(lo+j)*sz+i by rw[Nat.add_mul];omega];refine h4 i x ?_;rw[<- hx];simp
section
variable {P:Program} {t e:TypeId} {sz:Nat} (ht:P.underlying t=some (.slice e)) (hz:(P.info? e).map (·.size)=some sz)
include ht hz
theorem bJ.aGS {w:World}{v:Value}{rs:List (List Value)}(h:bJ w sz v rs)(hi:Nat)(h2:hi<=rs.length) :
  ∃v',bJ w sz v' (rs.take hi)/\v'.ownBlock=v.ownBlock /\ ∀w',(Instr.slice t v none (Option.some (Value.int .i64 hi)) (Option.some (Value.int .i64 hi))).run P w' = .ok v' w':=by
 obtain⟨a,c,rfl,hl⟩:=h.shape;obtain⟨i,hi',hs⟩:=Option.map_eq_some_iff.1 hz;have hel:P.elem t=e:=by simp[Program.elem,ht]
 have hh:=h.sliced 0 hi hi (Nat.zero_le _) h2 (Nat.le_refl _);rw[List.drop_zero]at hh;refine⟨_,hh,lW _ _ _ _ _ _ _,fun w'=>?_⟩;rw[run_slice_hm w' t a rs.length c (by rw[hel];exact ht) .i64 .i64 hi hi (by omega) (by omega) (by omega),hel];simp[sizeOf,typeInfo,hi',hs,Result.andThen,go_sem]
theorem cM.aGS {w:World}{v:Value}{rs:List (List Value)}(h:cM w e sz v rs)(hi:Nat)(h2:hi<=rs.length) :
  ∃v',cM w e sz v' (rs.take hi)/\v'.ownBlock=v.ownBlock /\ ∀w',(Instr.slice t v none (Option.some (Value.int .i64 hi)) (Option.some (Value.int .i64 hi))).run P w' = .ok v' w':=by
 obtain⟨a,c,rfl,hl⟩:=h.shape;obtain⟨i,hi',hs⟩:=Option.map_eq_some_iff.1 hz;have hel:P.elem t=e:=by simp[Program.elem,ht]
 have hh:=h.shrink (k:=hi) h2;have ha:Go.sliced a 0 hi hi sz = .slice a hi hi:=by
  unfold Go.sliced;split
  ·rfl
  ·rcases h.own with ⟨e1,_⟩|⟨g,cap,cur,e1,_⟩
   ·obtain⟨rfl,_⟩:a=none/\True:=⟨(Value.slice.inj e1).1,trivial⟩;simp
   ·obtain⟨rfl,_⟩:a=some ⟨g,0,none⟩/\True:=⟨(Value.slice.inj e1).1,trivial⟩;simp[Addr.add_lit]
 refine⟨_,hh,?_,fun w'=>?_⟩
 ·cases a<;>rfl
 ·rw[run_slice_hm w' t a rs.length c (by rw[hel];exact ht) .i64 .i64 hi hi (by omega) (by omega) (by omega),hel];simp[sizeOf,typeInfo,hi',hs,Result.andThen,ha]
end
end Go.Proofs.YtjdglpcnkiioeaaGreat
namespace Go.Proofs.YtjdglpcnkiioeaaGreat
open Go.Lib (hid)
open Go.RowKit Go.Maps Go.Proofs.Own

theorem aIq (v1 v2:Value)(d e:List Nat)(w:World)(hd:Bytes w v1 d)(he:Bytes w v2 e) :
  Calls Tryz.prog 79 #[v1,v2] w fun E w'=>E = .returned (.bool (decide (d=e)))/\w=w':=by
 have c1:(convert 36 9 v1).run Tryz.prog w = .ok (.string (bX d)) w:=hd.str Tryz.underlying36 Tryz.underlying5 Tryz.underlying9;have c2:(convert 36 9 v2).run Tryz.prog w = .ok (.string (bX e)) w:=he.str Tryz.underlying36 Tryz.underlying5 Tryz.underlying9;have HDE:Hid (bX d=bX e ↔ d=e):=hid ⟨fun h=>yS hd.lt he.lt h,fun h=>by rw[h]⟩;obtain⟨a1,k1,rfl,_⟩:=hd.shape;obtain⟨a2,k2,rfl,_⟩:=he.shape;clear hd he;by_cases q:d=e
 ·have b4:((bX d).toList==(bX e).toList)=true:=tZ (HDE.out.2 q);have HV:Hid (decide (d=e)=true):=hid (decide_eq_true q);rw[HV.out];clear q;go_enter Tryz.func79,Tryz.ntmps79;go_wp2_with fail;go_ret;exact⟨rfl,rfl⟩
 ·have b4:((bX d).toList==(bX e).toList)=false:=aEd fun h=>q (HDE.out.1 h);have HV:Hid (decide (d=e)=false):=hid (decide_eq_false q);rw[HV.out];clear q;go_enter Tryz.func79,Tryz.ntmps79;go_wp2_with fail;go_ret;exact⟨rfl,rfl⟩
