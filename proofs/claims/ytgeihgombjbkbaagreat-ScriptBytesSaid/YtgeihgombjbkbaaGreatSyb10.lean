/- For scbytes_law_holds. -/
import Derived.Test.YtgeihgombjbkbaaGreatRows
import Derived.Test.YtgeihgombjbkbaaGreatSyb9
set_option maxHeartbeats 16000000
set_option maxRecDepth 100000
namespace Go.Proofs.YtgeihgombjbkbaaGreat
open Go.Lib (hid)
open Go.RowKit Go.Maps Go.Proofs.Own

theorem wrap32 (n:Int):IntKind.u32.wrap n=n % 4294967296:=by simp[IntKind.wrap,IntKind.bits,IntKind.signed]
theorem ofInt32 (a:Nat)(ha:a<4294967296):(BitVec.ofInt 32 (a:Int)).toNat=a:=by
 rw[BitVec.ofInt_natCast,BitVec.toNat_ofNat];exact Nat.mod_eq_of_lt (by omega)
theorem aKI (a b:Nat)(ha:a<4294967296)(hb:b<4294967296):bits .xor .u32 (a:Int) (b:Int)=((a ^^^ b:Nat):Int):=by
 have hx:a ^^^ b<2 ^ 32:=Nat.xor_lt_two_pow (by omega) (by omega);show IntKind.u32.wrap ((BitVec.ofInt 32 (a:Int) ^^^ BitVec.ofInt 32 (b:Int)).toNat:Int)=_;rw[BitVec.toNat_xor,ofInt32 a ha,ofInt32 b hb,wrap32];omega
theorem aMj (a b:Nat)(ha:a<4294967296)(hb:b<4294967296):bits .and .u32 (a:Int) (b:Int)=((a &&& b:Nat):Int):=by
 have hx:a &&& b<2 ^ 32:=Nat.and_lt_two_pow _ (by omega);show IntKind.u32.wrap ((BitVec.ofInt 32 (a:Int) &&& BitVec.ofInt 32 (b:Int)).toNat:Int)=_;rw[BitVec.toNat_and,ofInt32 a ha,ofInt32 b hb,wrap32];omega
theorem aId (a:Nat)(ha:a<4294967296):bits .and .u32 (a:Int) 16777215=((a % 16777216:Nat):Int):=by
 have:=aMj a 16777215 ha (by decide);rw[show ((16777215:Nat):Int)=16777215 from rfl]at this;rw[this,show (16777215:Nat)=2 ^ 24-1 from rfl,Nat.and_two_pow_sub_one_eq_mod]
theorem aI4 (a:Nat)(ha:a<4294967296):bits .xor .u32 (a:Int) 8801531=((a ^^^ turns:Nat):Int):=by
 have:=aKI a 8801531 ha (by decide)
 simpa [turns] using this

theorem aKf (b:Nat)(s:Nat)(w:World)(hs:s<16777216)(c0:w.cell? ⟨b,0,none⟩=some (.int .u32 s))(f0:w.frozen? ⟨b,0,none⟩=false) :
  Calls Tryz.prog 253 #[.pointer (some ⟨b,0,none⟩)] w fun e w'=>e = .returned (.tuple #[])/\w'.cell? ⟨b,0,none⟩=some (.int .u32 (kW s))/\w'.frozen? ⟨b,0,none⟩=false/\Kept w w' (fun k=>k=b):=by
 by_cases ht:s<8388608
 ·have hx:((s:Int)*2 / 16777216 != 0)=false:=by
   have:(s:Int)*2 / 16777216=0:=by omega
   simp[this]
  have hv:((s:Int)*2)=((kW s:Nat):Int):=by
   have h1:s / 8388608 % 2=0:=by omega
   have h2:2*s % 16777216=2*s:=by omega
   simp[kW,h1,h2];omega
  have HV:=hid hv;clear hv;go_enter Tryz.func253,Tryz.ntmps253;go_wp2_with fail
  go_end0
  refine⟨rfl,?_,by rw[fsc];exact f0,Kept.setCell _ ⟨b,0,none⟩ _⟩;rw[HV.out];exact css c0
 ·have hx:((s:Int)*2 / 16777216 != 0)=true:=by
   have:(s:Int)*2 / 16777216=1:=by omega
   simp[this]
  have hv:bits BinOp.xor IntKind.u32 (bits BinOp.and IntKind.u32 ((s:Int)*2) 16777215) 8801531=((kW s:Nat):Int):=by
   have h1:s / 8388608 % 2=1:=by omega
   have h3:=aId (2*s) (by omega);rw[show ((s:Int)*2)=((2*s:Nat):Int) by omega,h3,aI4 _ (by omega)];simp[kW,h1]
  have HV:=hid hv;clear hv;go_enter Tryz.func253,Tryz.ntmps253;go_wp2_with fail
  go_end0
  refine⟨rfl,?_,by rw[World.frozen?_setCell,World.frozen?_setCell];exact f0,(Kept.setCell _ ⟨b,0,none⟩ _).trans (Kept.setCell _ ⟨b,0,none⟩ _)⟩;rw[HV.out];exact css (css c0)

def ints (l:List Nat):List Int:=l.map fun c:Nat=>(c:Int)
theorem aD (l:List Nat):(ints l).length=l.length:=by simp[ints]
theorem ints_at (l:List Nat)(k:Nat)(h:k<(ints l).length):(ints l)[k]=((l[k]'(by simpa [ints] using h):Nat):Int):=by simp[ints]
def onP (s:Nat)(l:List Nat):Nat:=l.foldl (fun s c=>turnP 8 (s ^^^ (c*65536))) s
theorem tX (s:Nat)(l:List Nat)(k:Nat)(h:k<l.length):onP s (l.take (k+1))=turnP 8 (onP s (l.take k) ^^^ (l[k]*65536)):=by
 unfold onP;rw[List.take_succ_eq_append_getElem h,List.foldl_append];rfl
theorem vH (s:Nat)(hs:s<16777216):∀i,turnP i s<16777216
 | 0=>hs
 | _+1=>aIZ _
theorem wA (l:List Nat):∀s,s<16777216->(∀c ∈ l,c<256)->onP s l<16777216:=by
 induction l with
 | nil=>intro s hs _;exact hs
 | cons c l ih =>
  intro s hs hl;have hc:=hl c (by simp);exact ih _ (vH _ (Nat.xor_lt_two_pow (n:=24) hs (by omega)) 8) fun d hd=>hl d (by simp[hd])

theorem aLT (sv:Value)(s:Nat)(l:List Nat)(w:World)(hs:s<16777216)(hr:Reads w .u8 sv (ints l))(hl:∀c ∈ l,c<256)(hlen:l.length<=2097152) :
  Calls Tryz.prog 185 #[.int .u32 s,sv] w fun e w'=>e = .returned (.int .u32 (onP s l))/\Below w.heap.size w w':=by
 have hmf:∀(fn:Fn) (first cap:Array Value) (w:World),(Instr.makeFunc fn first cap).run Tryz.prog w = .ok (.func fn first cap) w:=fun _ _ _ _=>rfl;obtain⟨a,c,rfl,hc⟩:=hr;have HC:Hid (∀j (h:j<l.length),∃b o,a=some ⟨b,o,none⟩/\w.cell? ⟨b,o+j,none⟩=some (.int .u8 (l[j]:Nat))):=hid fun j hj=>by
  obtain⟨b,o,h1,h2⟩:=hc j (by rw[aD];exact hj);exact⟨b,o,h1,by rw[h2,ints_at]⟩
 have HL:=hid hl;have hv0:bits BinOp.and IntKind.u32 (s:Int) 16777215=(s:Int):=by rw[aId s (by omega),Nat.mod_eq_of_lt hs]
 clear hc hl;rw[aD];go_enter Tryz.func185,Tryz.ntmps185;go_wp2_with fail
 go_loopw [13] (fun i wr=>∃k:Nat,k<=l.length/\i = .int .i64 k/\wr.cell? ⟨w.heap.size,0,none⟩=some (.int .u32 (onP s (l.take k):Nat))/\wr.frozen? ⟨w.heap.size,0,none⟩=false/\Below w.heap.size w wr) (fun i _=>l.length-(intOf i).toNat)
 case atStart =>
  refine⟨0,Nat.zero_le _,rfl,?_,?_,?_⟩
  ·simp[onP,go_sem]
  ·simp[go_sem]
  ·first
    | exact(Below.refl _ _).alloc (Nat.le_refl _) _
    | exact((Kept.alloc w _ (fun k=>w.heap.size<=k)).trans ((Kept.setCell _ ⟨w.heap.size,0,none⟩ _).mono (fun k _ e=>by subst e;exact Nat.le_refl _))).below (Nat.le_refl _) fun _ h=>h
 case round =>
  obtain⟨k,hk,rfl,c0,f0,hbl⟩:=hrel;have HB:=hid hbl;have hsz:=hbl.size;have hbw:w.heap.size<wr.heap.size:=World.block_lt_of_cell? _ _ c0;clear hbl;by_cases hlt:k<l.length
  ·obtain⟨b,o,rfl,hcell⟩:=HC.out k hlt;have hb:=World.block_lt_of_cell? _ _ hcell;have hb:b<w.heap.size:=hb;have hcell2:=Below.at HB.out hcell hb;have hx:l[k]<256:=HL.out _ (List.getElem_mem hlt);have HS:=hid (tX s l k hlt);have hsl:onP s (l.take k)<16777216:=wA _ s hs fun d hd=>HL.out d (List.mem_of_mem_take hd);generalize l[k]=x at hcell2 hx HS;generalize onP s (l.take k)=y at c0 HS hsl;have hxy:y ^^^ (x*65536)<16777216:=Nat.xor_lt_two_pow (n:=24) hsl (by omega);have hv1:bits BinOp.xor IntKind.u32 (y:Int) ((x:Int)*65536)=((y ^^^ (x*65536):Nat):Int):=by
    rw[show ((x:Int)*65536)=((x*65536:Nat):Int) by omega,aKI _ _ (by omega) (by omega)]
   clear hcell;go_wp2_with fail;generalize hw5:World.setCell _ _ _=w5;have k5:Kept wr w5 (fun k=>k=w.heap.size):=by rw[<- hw5];exact Kept.setCell _ ⟨w.heap.size,0,none⟩ _
   have d0:w5.cell? ⟨w.heap.size,0,none⟩=some (.int .u32 ((y ^^^ (x*65536):Nat):Int)):=by rw[<- hw5];exact css c0
   have g0:w5.frozen? ⟨w.heap.size,0,none⟩=false:=by rw[<- hw5,World.frozen?_setCell];exact f0
   have hb5:Below w.heap.size w w5:=HB.out.trans (k5.below hsz fun k e=>by omega);have HB5:=hid hb5;have D0:=hid d0;have G0:=hid g0;clear hw5 k5 c0 f0 hb5 d0 g0 hv1;generalize y ^^^ (x*65536)=z at D0 HS hxy;go_wp2_with fail
   go_loopw [22] (fun i wr=>∃j:Nat,j<=8/\i = .int .i64 j/\wr.cell? ⟨w.heap.size,0,none⟩=some (.int .u32 (turnP j z:Nat))/\wr.frozen? ⟨w.heap.size,0,none⟩=false/\Below w.heap.size w wr) (fun i _=>8-(intOf i).toNat)
   case atStart=>exact⟨0,Nat.zero_le _,rfl,D0.out,G0.out,HB5.out⟩
   case round =>
    obtain⟨j,hj,rfl,c0,f0,hbl⟩:=hrel;have HB6:=hid hbl;have hsz6:=hbl.size;clear hbl;by_cases hjt:j<8
    ·have hi0:(0:Int)<=(j:Int):=by omega
     have hi8:(j:Int)<8:=by omega
     have ST:=hid (aKf w.heap.size (turnP j z) _ (vH z hxy j) c0 f0);clear c0 f0;go_wp2_with fail;refine ST.out.mono ?_;rintro e w7 ⟨rfl,c7,f7,k7⟩;have C7:=hid c7;have F7:=hid f7;have K7:=hid k7;clear c7 f7 k7;go_wp2_with fail
     go_roundw
     case rel=>exact⟨j+1,by omega,by go_num,C7.out,F7.out,HB6.out.trans (K7.out.below hsz6 fun k e=>by omega)⟩
     case measure=>simp[intOf];omega
    ·obtain rfl:j=8:=by omega
     have C8:=hid c0;have F8:=hid f0;clear c0 f0;go_wp2_with fail
     go_roundw
     case rel=>exact⟨k+1,by omega,by go_num,by rw[HS.out];exact C8.out,F8.out,HB6.out⟩
     case measure=>simp[intOf];omega
  ·obtain rfl:k=l.length:=by omega
   go_wp2_with fail;go_ret;exact⟨by simp,HB.out⟩

theorem aI3 (c s:Nat)(hs:s<16777216):∀i,kZ c i s<16777216
 | 0=>hs
 | _+1=>aI0 _ _

theorem gE (t b:Nat)(h:t / 8388608 % 2=b):((t:Int)*2 % 16777216)=((kX t b:Nat):Int):=by
 subst h;simp[kX];omega
theorem gF (t b:Nat)(_ht:t<16777216)(h:t / 8388608 % 2≠b):bits BinOp.xor IntKind.u32 ((t:Int)*2 % 16777216) 8801531=((kX t b:Nat):Int):=by
 rw[show ((t:Int)*2 % 16777216)=((2*t % 16777216:Nat):Int) by omega,aI4 _ (by omega)];simp[kX,h]

theorem aKl (sv:Value)(s:Nat)(l:List Nat)(w:World)(hs:s<16777216)(hr:Reads w .u8 sv (ints l))(hl:∀c ∈ l,c<256)(hlen:l.length<=2097152) :
  Calls Tryz.prog 132 #[.int .u32 s,sv] w fun e w'=>e = .returned (.int .u32 (onP s l))/\Below w.heap.size w w':=by
 obtain⟨a,c,rfl,hc⟩:=hr;have HC:Hid (∀j (h:j<l.length),∃b o,a=some ⟨b,o,none⟩/\w.cell? ⟨b,o+j,none⟩=some (.int .u8 (l[j]:Nat))):=hid fun j hj=>by
  obtain⟨b,o,h1,h2⟩:=hc j (by rw[aD];exact hj);exact⟨b,o,h1,by rw[h2,ints_at]⟩
 have HL:=hid hl;clear hc hl;rw[aD];go_enter Tryz.func132,Tryz.ntmps132;go_wp2_with fail
 go_loopw [0,5] (fun d i wr=>∃k:Nat,k<=l.length/\i = .int .i64 k/\d = .int .u32 (onP s (l.take k):Nat)/\Below w.heap.size w wr) (fun _ i _=>l.length-(intOf i).toNat)
 case atStart=>exact⟨0,Nat.zero_le _,rfl,by simp[onP];omega,Below.refl _ _⟩
 case round =>
  obtain⟨k,hk,rfl,rfl,hbl⟩:=hrel;have HB:=hid hbl;have hsz:=hbl.size;clear hbl;by_cases hlt:k<l.length
  ·obtain⟨b,o,rfl,hcell⟩:=HC.out k hlt;have hb:=World.block_lt_of_cell? _ _ hcell;have hb:b<w.heap.size:=hb;have hx:l[k]<256:=HL.out _ (List.getElem_mem hlt);have HS:=hid (tX s l k hlt);have hsl:onP s (l.take k)<16777216:=wA _ s hs fun d hd=>HL.out d (List.mem_of_mem_take hd);generalize l[k]=x at hcell hx HS;generalize onP s (l.take k)=y at HS hsl ⊢;rw[xT x y hx]at HS;have HCL:=hid hcell;clear hcell;go_wp2_with fail
   go_loopw [0,6] (fun d i wr=>∃j:Nat,j<=8/\i = .int .i64 (7-j)/\d = .int .u32 (kZ x j y:Nat)/\Below w.heap.size w wr) (fun _ i _=>(intOf i+1).toNat)
   case atStart=>exact⟨0,Nat.zero_le _,rfl,rfl,HB.out⟩
   case round =>
    obtain⟨j,hj,rfl,rfl,hbl⟩:=hrel;have HB6:=hid hbl;have hcell2:=Below.at HB6.out HCL.out hb;clear hbl;by_cases hjt:j<8
    ·have hi0:(0:Int)<=7-(j:Int):=by omega
     have hyt:=aI3 x y hsl j;have HT:=hid (show kZ x (j+1) y=kX (kZ x j y) (x / 2 ^ (7-j) % 2) from rfl);generalize kZ x j y=t at HT hyt ⊢;have hj8:j=0\/j=1\/j=2\/j=3\/j=4\/j=5\/j=6\/j=7:=by omega
     rcases hj8 with rfl|rfl|rfl|rfl|rfl|rfl|rfl|rfl
     ·simp only[Nat.reduceSub,Nat.reducePow]at HT;by_cases hq:t / 8388608 % 2=x / 128 % 2
      ·have hbe:((t:Int) / 8388608 % 2 != (x:Int) / 128 % 2)=false:=by simp;omega
       have HV:=hid (gE t _ hq);clear hq;go_wp2_with fail
       go_roundw
       case rel=>exact⟨1,by omega,by first|rfl|go_num,by rw[HV.out,HT.out],HB6.out⟩
       case measure=>decide
      ·have hbe:((t:Int) / 8388608 % 2 != (x:Int) / 128 % 2)=true:=by simp;omega
       have HV:=hid (gF t _ hyt hq);clear hq;go_wp2_with fail
       go_roundw
       case rel=>exact⟨1,by omega,by first|rfl|go_num,by rw[HV.out,HT.out],HB6.out⟩
       case measure=>decide
     ·simp only[Nat.reduceSub,Nat.reducePow]at HT;by_cases hq:t / 8388608 % 2=x / 64 % 2
      ·have hbe:((t:Int) / 8388608 % 2 != (x:Int) / 64 % 2)=false:=by simp;omega
       have HV:=hid (gE t _ hq);clear hq;go_wp2_with fail
       go_roundw
       case rel=>exact⟨2,by omega,by first|rfl|go_num,by rw[HV.out,HT.out],HB6.out⟩
       case measure=>decide
      ·have hbe:((t:Int) / 8388608 % 2 != (x:Int) / 64 % 2)=true:=by simp;omega
       have HV:=hid (gF t _ hyt hq);clear hq;go_wp2_with fail
       go_roundw
       case rel=>exact⟨2,by omega,by first|rfl|go_num,by rw[HV.out,HT.out],HB6.out⟩
       case measure=>decide
     ·simp only[Nat.reduceSub,Nat.reducePow]at HT;by_cases hq:t / 8388608 % 2=x / 32 % 2
      ·have hbe:((t:Int) / 8388608 % 2 != (x:Int) / 32 % 2)=false:=by simp;omega
       have HV:=hid (gE t _ hq);clear hq;go_wp2_with fail
       go_roundw
       case rel=>exact⟨3,by omega,by first|rfl|go_num,by rw[HV.out,HT.out],HB6.out⟩
       case measure=>decide
      ·have hbe:((t:Int) / 8388608 % 2 != (x:Int) / 32 % 2)=true:=by simp;omega
       have HV:=hid (gF t _ hyt hq);clear hq;go_wp2_with fail
       go_roundw
       case rel=>exact⟨3,by omega,by first|rfl|go_num,by rw[HV.out,HT.out],HB6.out⟩
       case measure=>decide
     ·simp only[Nat.reduceSub,Nat.reducePow]at HT;by_cases hq:t / 8388608 % 2=x / 16 % 2
      ·have hbe:((t:Int) / 8388608 % 2 != (x:Int) / 16 % 2)=false:=by simp;omega
       have HV:=hid (gE t _ hq);clear hq;go_wp2_with fail
       go_roundw
       case rel=>exact⟨4,by omega,by first|rfl|go_num,by rw[HV.out,HT.out],HB6.out⟩
       case measure=>decide
      ·have hbe:((t:Int) / 8388608 % 2 != (x:Int) / 16 % 2)=true:=by simp;omega
       have HV:=hid (gF t _ hyt hq);clear hq;go_wp2_with fail
       go_roundw
       case rel=>exact⟨4,by omega,by first|rfl|go_num,by rw[HV.out,HT.out],HB6.out⟩
       case measure=>decide
     ·simp only[Nat.reduceSub,Nat.reducePow]at HT;by_cases hq:t / 8388608 % 2=x / 8 % 2
      ·have hbe:((t:Int) / 8388608 % 2 != (x:Int) / 8 % 2)=false:=by simp;omega
       have HV:=hid (gE t _ hq);clear hq;go_wp2_with fail
       go_roundw
       case rel=>exact⟨5,by omega,by first|rfl|go_num,by rw[HV.out,HT.out],HB6.out⟩
       case measure=>decide
      ·have hbe:((t:Int) / 8388608 % 2 != (x:Int) / 8 % 2)=true:=by simp;omega
       have HV:=hid (gF t _ hyt hq);clear hq;go_wp2_with fail
       go_roundw
       case rel=>exact⟨5,by omega,by first|rfl|go_num,by rw[HV.out,HT.out],HB6.out⟩
       case measure=>decide
     ·simp only[Nat.reduceSub,Nat.reducePow]at HT;by_cases hq:t / 8388608 % 2=x / 4 % 2
      ·have hbe:((t:Int) / 8388608 % 2 != (x:Int) / 4 % 2)=false:=by simp;omega
       have HV:=hid (gE t _ hq);clear hq;go_wp2_with fail
       go_roundw
       case rel=>exact⟨6,by omega,by first|rfl|go_num,by rw[HV.out,HT.out],HB6.out⟩
       case measure=>decide
      ·have hbe:((t:Int) / 8388608 % 2 != (x:Int) / 4 % 2)=true:=by simp;omega
       have HV:=hid (gF t _ hyt hq);clear hq;go_wp2_with fail
       go_roundw
       case rel=>exact⟨6,by omega,by first|rfl|go_num,by rw[HV.out,HT.out],HB6.out⟩
       case measure=>decide
     ·simp only[Nat.reduceSub,Nat.reducePow]at HT;by_cases hq:t / 8388608 % 2=x / 2 % 2
      ·have hbe:((t:Int) / 8388608 % 2 != (x:Int) / 2 % 2)=false:=by simp;omega
       have HV:=hid (gE t _ hq);clear hq;go_wp2_with fail
       go_roundw
       case rel=>exact⟨7,by omega,by first|rfl|go_num,by rw[HV.out,HT.out],HB6.out⟩
       case measure=>decide
      ·have hbe:((t:Int) / 8388608 % 2 != (x:Int) / 2 % 2)=true:=by simp;omega
       have HV:=hid (gF t _ hyt hq);clear hq;go_wp2_with fail
       go_roundw
       case rel=>exact⟨7,by omega,by first|rfl|go_num,by rw[HV.out,HT.out],HB6.out⟩
       case measure=>decide
     ·simp only[Nat.reduceSub,Nat.reducePow]at HT;by_cases hq:t / 8388608 % 2=x / 1 % 2
      ·have hbe:((t:Int) / 8388608 % 2 != (x:Int) % 2)=false:=by simp;omega
       have HV:=hid (gE t _ hq);clear hq;go_wp2_with fail
       go_roundw
       case rel=>exact⟨8,by omega,by first|rfl|go_num,by rw[HV.out,HT.out],HB6.out⟩
       case measure=>decide
      ·have hbe:((t:Int) / 8388608 % 2 != (x:Int) % 2)=true:=by simp;omega
       have HV:=hid (gF t _ hyt hq);clear hq;go_wp2_with fail
       go_roundw
       case rel=>exact⟨8,by omega,by first|rfl|go_num,by rw[HV.out,HT.out],HB6.out⟩
       case measure=>decide
    ·obtain rfl:j=8:=by omega
     go_wp2_with fail
     go_roundw
     case rel=>exact⟨k+1,by omega,by go_num,by rw[HS.out],HB6.out⟩
     case measure=>simp[intOf];omega
  ·obtain rfl:k=l.length:=by omega
   go_wp2_with fail;go_ret;exact⟨by simp,HB.out⟩

theorem lY {a b:Bool}(h:a=b):Ending.returned (.bool a) = .returned (.bool b):=by rw[h]
def iT (l:List Nat):Nat:=onP 11994318 l
theorem nO (l:List Nat)(hl:∀c ∈ l,c<256):iT l<16777216:=wA l _ (by decide) hl

theorem aIU (sv:Value)(l:List Nat)(w:World)(hr:Reads w .u8 sv (ints l))(hl:∀c ∈ l,c<256)(hlen:l.length<=2097152) :
  Calls Tryz.prog 88 #[sv] w fun e w'=>e = .returned (.int .u32 (iT l))/\Below w.heap.size w w':=by
 have HR:=hid hr;have HL:=hid hl;obtain⟨a,c,rfl⟩:=hr.shape;clear hr hl;go_enter Tryz.func88,Tryz.ntmps88;go_wp2_with fail;refine(aKl _ 11994318 l _ (by decide) HR.out HL.out hlen).mono ?_;rintro e w1 ⟨rfl,hb1⟩;go_wp2_with fail;go_ret;exact⟨rfl,hb1⟩

theorem xN (b:Nat)(sv:Value)(l:List Nat)(w:World)(c0:w.cell? ⟨b,0,none⟩=some sv)(hr:Reads w .u8 sv (ints l))(hl:∀c ∈ l,c<256)(hlen:l.length<=2097152) :
  Calls Tryz.prog 131 #[.slice (some ⟨b,0,none⟩) 1 1] w fun e w'=>e = .returned (.int .u32 (iT l))/\Below w.heap.size w w':=by
 have HR:=hid hr;have HL:=hid hl;have hlt:=hid (nO l hl);have hbs:b<w.heap.size:=World.block_lt_of_cell? _ _ c0;obtain⟨a,c,rfl⟩:=hr.shape;clear hr hl;go_enter Tryz.func131,Tryz.ntmps131;go_wp2_with fail
 go_loopw [3,8] (fun d i wr=>((i = .int .i64 0/\d = .int .u32 11994318/\wr=w)\/(i = .int .i64 1/\d = .int .u32 (iT l:Nat)/\Below w.heap.size w wr))) (fun _ i _=>1-(intOf i).toNat)
 case atStart=>exact .inl ⟨rfl,rfl,rfl⟩
 case round =>
  rcases hrel with ⟨rfl,rfl,rfl⟩|⟨rfl,rfl,hb⟩
  ·go_wp2_with fail;refine(aLT _ 11994318 l _ (by decide) HR.out HL.out hlen).mono ?_;rintro e w1 ⟨rfl,hb1⟩;go_wp2_with fail
   go_roundw
   case rel=>exact .inr ⟨rfl,rfl,hb1⟩
   case measure=>decide
  ·have HB:=hid hb;clear hb;go_wp2_with fail;go_ret;exact⟨rfl,HB.out⟩

theorem aHZ (sv:Value)(l:List Nat)(n:Nat)(w:World)(hr:Reads w .u8 sv (ints l))(hl:∀c ∈ l,c<256)(hlen:l.length<=2097152) :
  Calls Tryz.prog 181 #[sv,.int .u32 n] w fun e w'=>e = .returned (.bool (decide (iT l=n)))/\Below w.heap.size w w':=by
 have HR:=hid hr;have HL:=hid hl;obtain⟨a,c,rfl⟩:=hr.shape;clear hr hl;go_enter Tryz.func181,Tryz.ntmps181;go_wp2_with fail;refine(xN w.heap.size _ l _ (by go_cell) (HR.out.alloc _) HL.out hlen).mono ?_;rintro e w1 ⟨rfl,hb1⟩;go_wp2_with fail;go_ret;refine⟨lY ?_,((Below.refl _ _).alloc (Nat.le_refl _) _).trans (hb1.mono (by simp))⟩;by_cases h:iT l=n<;>simp[h]<;>omega

theorem Tryz.aH4:(Tryz.prog.info? 5).map (fun i=>(i.zero,i.size,i.bytes))=some (some (.int .u8 0),1,1):=by kernel_rfl
theorem Tryz.u8s:eE Tryz.prog 22 5 .u8 1:=⟨Tryz.underlying22,Tryz.aH4⟩

def kV (l:List Nat):List Nat:=l ++ [iT l / 65536,iT l / 256 % 256,iT l % 256]
theorem jS (l m:List Nat):ints (l++m)=ints l++ints m:=by simp[ints]

theorem qC (l:List Nat):ints (kV l)=ints l ++ [((iT l / 65536:Nat):Int),((iT l / 256 % 256:Nat):Int),((iT l % 256:Nat):Int)]:=by
 simp only[kV,ints,List.map_append,List.map_cons,List.map_nil]

theorem zH (sv:Value)(l:List Nat)(w:World)(hr:Reads w .u8 sv (ints l))(hl:∀c ∈ l,c<256)(hlen:l.length<=2097152) :
  Calls Tryz.prog 40 #[sv] w fun e w'=>∃v,e = .returned v/\aX w' w.heap.size 5 .u8 v (ints (kV l))/\Below w.heap.size w w':=by
 have HR:=hid hr;have HL:=hid hl;have hlt:=nO l hl;obtain⟨a,c,rfl⟩:=hr.shape;have hli:(ints l).length<=2097152:=by rw[aD];exact hlen
 clear hr hl;have HS:=hid (qC l);go_enter Tryz.func40,Tryz.ntmps40;go_wp2_with fail;refine(aIU _ l _ HR.out HL.out hlen).mono ?_;rintro e w1 ⟨rfl,hb1⟩;have HB:=hid hb1;have hs1:=hb1.size;clear hb1;generalize iT l=n at hlt HS ⊢;have HE:Hid (aX (w1.alloc (.cells #[] 5)) w1.heap.size 5 .u8 (.slice (some ⟨w1.heap.size,0,none⟩) 0 0) []):=hid (aX.empty (heap_alloc_new _ _) (Nat.le_refl _));have HLN:Hid (([]:List Int).length+(ints l).length<=4294967296):=hid (by simp only[List.length_nil];omega);have H3:Hid (∀w2:World,Reads (w2.alloc (.cells #[.int .u8 ((n:Int) / 65536),.int .u8 ((n:Int) / 256 % 256),.int .u8 ((n:Int) % 256)] 5)) .u8 (.slice (some ⟨w2.heap.size,0,none⟩) 3 3) [(n:Int) / 65536,(n:Int) / 256 % 256,(n:Int) % 256]):=hid fun w2=>(aX.lit (base:=0) (zs:=[(n:Int) / 65536,(n:Int) / 256 % 256,(n:Int) % 256]) (heap_alloc_new _ _) (Nat.zero_le _) (by simp)).reads;have HL3:Hid (([]++ints l).length + [(n:Int) / 65536,(n:Int) / 256 % 256,(n:Int) % 256].length<=4294967296):=hid (by simp only[List.nil_append,List.length_cons,List.length_nil];omega)
 go_wp2_with (at_builtin;first
  | (refine aG Tryz.u8s _ _ rfl w1.heap.size _ _ _ _ rfl rfl HE.out ((HR.out.below HB.out).alloc _) (by decide) HLN.out (by simp) rfl ?_;intro v2 w2 hown2 hgr2 hat2 hnil2 hbel2;obtain⟨a2,c2,rfl⟩:=hown2.shape;have HO2:=hid hown2;have hs2:=hbel2.size;clear hown2 hgr2 hat2 hnil2)
  | (refine aG Tryz.u8s _ _ rfl w1.heap.size _ _ _ [(n:Int) / 65536,(n:Int) / 256 % 256,(n:Int) % 256] rfl rfl (HO2.out.alloc _) (H3.out _) (by decide) HL3.out (by simp only[World.size_alloc]at hs2 ⊢;omega) rfl ?_;intro v3 w3 hown3 hgr3 hat3 hnil3 hbel3))
 go_ret;refine⟨_,rfl,?_,?_⟩
 ·rw[HS.out];exact(show aX _ w1.heap.size 5 .u8 _ (ints l ++ [((n / 65536:Nat):Int),((n / 256 % 256:Nat):Int),((n % 256:Nat):Int)]) from hown3).lower fun b hb=>by have:=(hown3.lt b hb).1;omega
 ·exact HB.out.trans (((((Below.refl _ _).alloc (Nat.le_refl _) _).trans hbel2).trans (((Below.refl _ _).alloc (by have:=hs2;simp only[World.size_alloc]at this;omega) _).trans hbel3)).mono hs1)

theorem aIV (sv:Value)(l:List Nat)(w:World)(hr:Reads w .u8 sv (ints l))(hl:∀c ∈ l,c<256)(hlen:l.length<=2097152) :
  Calls Tryz.prog 87 #[sv] w fun e w'=>∃v,e = .returned v/\aX w' w.heap.size 5 .u8 v (ints (kV l))/\Below w.heap.size w w':=by
 obtain⟨i5,hi5,hz5,hy5,hw5⟩:∃i,Tryz.prog.info? 5=some i/\i.zero=some (.int .u8 0)/\i.size=1/\i.bytes=1:=by
  obtain⟨i,hi,hzz⟩:=Option.map_eq_some_iff.1 Tryz.aH4;simp only[Prod.mk.injEq]at hzz;exact⟨i,hi,hzz.1,hzz.2.1,hzz.2.2⟩
 have HR:=hid hr;have HL:=hid hl;have hlt:=nO l hl;obtain⟨a,c,rfl⟩:=hr.shape;have hli:(ints l).length<=2097152:=by rw[aD];exact hlen
 clear hr hl;have HS:=hid (qC l);have HI:=hid (And.intro hi5 (And.intro hz5 (And.intro hy5 hw5)));clear hi5 hz5 hy5 hw5;go_enter Tryz.func87,Tryz.ntmps87;go_wp2_with fail;refine(xN w.heap.size _ l _ (by go_cell) (HR.out.alloc _) HL.out hlen).mono ?_;rintro e w1 ⟨rfl,hb1⟩;have hb1':Below w.heap.size w w1:=((Below.refl _ _).alloc (Nat.le_refl _) _).trans (hb1.mono (by simp));have HB:=hid hb1';have hs1:=hb1'.size;clear hb1 hb1';generalize iT l=n at hlt HS ⊢;have HLN:Hid (([]:List Int).length+(ints l).length<=4294967296):=hid (by simp only[List.length_nil];omega);have H3:Hid (∀w2:World,Reads (w2.alloc (.cells #[.int .u8 ((n:Int) / 65536),.int .u8 ((n:Int) / 256 % 256),.int .u8 ((n:Int) % 256)] 5)) .u8 (.slice (some ⟨w2.heap.size,0,none⟩) 3 3) [(n:Int) / 65536,(n:Int) / 256 % 256,(n:Int) % 256]):=hid fun w2=>(aX.lit (base:=0) (zs:=[(n:Int) / 65536,(n:Int) / 256 % 256,(n:Int) % 256]) (heap_alloc_new _ _) (Nat.zero_le _) (by simp)).reads;have HL3:Hid (([]++ints l).length + [(n:Int) / 65536,(n:Int) / 256 % 256,(n:Int) % 256].length<=4294967296):=hid (by simp only[List.nil_append,List.length_cons,List.length_nil];omega)
 go_wp2_with (first
  | (refine wpList_make_own _ rfl _ _ 22 rfl w1.heap.size 5 i5 (.int .u8 0) 1 Tryz.underlying22 HI.out.1 HI.out.2.1 HI.out.2.2.1 .i64 .i64 _ ((ints l).length+3) rfl rfl (by omega) (by rw[HI.out.2.2.2];omega) (by unfold maxLen;omega) (Nat.le_refl _) ?_;intro w2 hown2 hgr2;have HO2:Hid (aX w2 w1.heap.size 5 .u8 (.slice (some ⟨w1.heap.size,0,none⟩) 0 ((ints l).length+3)) []):=hid hown2;have hk2:=Kept.eX hgr2;have HK2:=hid (hk2.below (Nat.le_refl _) (fun k h=>by cases h));have hs2:=HK2.out.size;clear hown2 hgr2 hk2)
  | (at_builtin;refine aG Tryz.u8s _ _ rfl w1.heap.size _ _ _ _ rfl rfl HO2.out ((HR.out.below HB.out).below HK2.out) (by decide) HLN.out (by omega) rfl ?_;intro v3 w3 hown3 hgr3 hat3 hnil3 hbel3;obtain⟨a3,c3,rfl⟩:=hown3.shape;have HO3:=hid hown3;have hs3:=hbel3.size;clear hown3 hgr3 hat3 hnil3)
  | (at_builtin;refine aG Tryz.u8s _ _ rfl w1.heap.size _ _ _ [(n:Int) / 65536,(n:Int) / 256 % 256,(n:Int) % 256] rfl rfl (HO3.out.alloc _) (H3.out _) (by decide) HL3.out (by simp only[World.size_alloc];omega) rfl ?_;intro v4 w4 hown4 hgr4 hat4 hnil4 hbel4))
 go_ret;refine⟨_,rfl,?_,?_⟩
 ·rw[HS.out];exact(show aX _ w1.heap.size 5 .u8 _ (ints l ++ [((n / 65536:Nat):Int),((n / 256 % 256:Nat):Int),((n % 256:Nat):Int)]) from hown4).lower fun b hb=>by have:=(hown4.lt b hb).1;omega
 ·exact HB.out.trans (((HK2.out.trans hbel3).trans (((Below.refl _ _).alloc (by omega) _).trans hbel4)).mono hs1)

theorem rC (v:Value)(zs:List Int)(w:World)(hr:Reads w .u8 v zs)(hl:zs.length<=2097152) :
  Calls Tryz.prog 71 #[v] w fun e w'=>∃v',e = .returned v'/\aX w' w.heap.size 5 .u8 v' zs/\Below w.heap.size w w':=by
 have HR:=hid hr;obtain⟨a,c,rfl,hc⟩:=hr;have h0:=fun w=>Lib.run_eql_slice_nil (P:=Tryz.prog) w 22 5 a zs.length c 0 0 Tryz.underlying22;clear hc;cases a with
 | none =>
  have hz:zs = []:=by
   obtain⟨a',c',h,hc⟩:=HR.out;rcases zs with _|⟨z,zs⟩
   ·rfl
   ·obtain⟨b,o,e,_⟩:=hc 0 (by simp);subst e;cases h
  subst hz;clear h0;have h0:=fun w=>Lib.run_eql_slice_nil (P:=Tryz.prog) w 22 5 none 0 c 0 0 Tryz.underlying22;go_enter Tryz.func71,Tryz.ntmps71
  go_wp2
  go_ret;exact⟨_,rfl,aX.nil _ _ _ _,Below.refl _ _⟩
 | some ad =>
  go_enter Tryz.func71,Tryz.ntmps71
  go_wp2_with (at_builtin;refine aG Tryz.u8s _ _ rfl w.heap.size (.slice (some ⟨w.heap.size,0,none⟩) 0 0) (.slice (some ad) zs.length c) [] zs rfl rfl (aX.empty (heap_alloc_new _ _) (Nat.le_refl _)) (HR.out.alloc _) (by decide) (by simp;omega) (by simp) rfl ?_;intro v2 w2 hown2 hgr2 hat2 hnil2 hbel2)
  go_ret;exact⟨_,rfl,hown2,((Below.refl _ _).alloc (Nat.le_refl _) _).trans hbel2⟩

end Go.Proofs.YtgeihgombjbkbaaGreat
namespace Go.Proofs.YtgeihgombjbkbaaGreat
open Go.RowKit Go.Maps Go.Proofs.Own

structure Bytes (w:World)(v:Value)(l:List Nat):Prop where
 shape:∃a c,v = .slice a l.length c/\l.length<=c
 rd:Reads w .u8 v (ints l)
 lt:∀c ∈ l,c<256
 small:l.length<=2097152

theorem Bytes.kept {w w':World}{v:Value}{l:List Nat}{S:Nat->Prop}(h:Bytes w v l)(hk:Kept w w' S)(hs:∀b,v.ownBlock=some b -> ¬S b):Bytes w' v l:=⟨h.shape,h.rd.kept hk hs,h.lt,h.small⟩
theorem Bytes.below {w w':World}{v:Value}{l:List Nat}(h:Bytes w v l)(hb:Below w.heap.size w w'):Bytes w' v l:=⟨h.shape,h.rd.below hb,h.lt,h.small⟩
theorem Bytes.alloc {w:World}{v:Value}{l:List Nat}(h:Bytes w v l)(o:Obj):Bytes (w.alloc o) v l:=⟨h.shape,h.rd.alloc o,h.lt,h.small⟩
theorem Below.drewN (w:World)(n:Nat):Below w.heap.size w (w.drewN n):=⟨rfl,rfl,rfl,Nat.le_refl _,fun _ _=>rfl⟩
theorem Bytes.drewN {w:World}{v:Value}{l:List Nat}(h:Bytes w v l)(n:Nat):Bytes (w.drewN n) v l:=h.below (Below.drewN w n)
theorem Bytes.nil (w:World):Bytes w (.slice none 0 0) []:=⟨⟨none,0,rfl,Nat.le_refl _⟩,Reads.nil _ _ _ _,nofun,Nat.zero_le _⟩
theorem Bytes.dJ {w:World}{base:Nat}{e:TypeId}{v:Value}{l:List Nat}(h:aX w base e .u8 v (ints l))(hl:∀c ∈ l,c<256)(hs:l.length<=2097152):Bytes w v l:=by
 refine⟨?_,h.reads,hl,hs⟩;rcases h.2 with ⟨rfl,h0⟩|⟨g,cap,cur,rfl,_,_,hle,_⟩
 ·rw[aD]at h0;exact⟨none,0,by rw[h0],by omega⟩
 ·rw[aD]at hle ⊢;exact⟨_,_,rfl,hle⟩
theorem Bytes.cells {w:World}{a:Option Addr}{n c:Nat}{l:List Nat}(h:Bytes w (.slice a n c) l):n=l.length/\n<=c /\ ∀j (hj:j<l.length),∃b o,a=some ⟨b,o,none⟩/\w.cell? ⟨b,o+j,none⟩=some (.int .u8 (l[j]:Nat)):=by
 obtain⟨a',c',h1,h2⟩:=h.shape;cases h1;refine⟨rfl,h2,fun j hj=>?_⟩;obtain⟨a',c',h1,hc⟩:=h.rd;obtain⟨rfl,_⟩:a=a'/\c=c':=by simp at h1;exact⟨h1.1,h1.2.2⟩
 obtain⟨b,o,e,h3⟩:=hc j (by rw[aD];exact hj);exact⟨b,o,e,by rw[h3,ints_at]⟩
theorem Bytes.eR {w:World}{v:Value}{l:List Nat}(h:Bytes w v l)(hne:0<l.length):∃b o c,v = .slice (some ⟨b,o,none⟩) l.length c/\l.length<=c/\b<w.heap.size /\ ∀j,j<l.length->w.cell? ⟨b,o+j,none⟩=some (.int .u8 (l.getD j 0:Nat)):=by
 obtain⟨a,c,rfl,hle⟩:=h.shape;obtain⟨_,_,hc⟩:=h.cells;obtain⟨b,o,rfl,h0⟩:=hc 0 hne;refine⟨b,o,c,rfl,hle,World.block_lt_of_cell? _ _ h0,fun j hj=>?_⟩;obtain⟨b',o',e,h1⟩:=hc j hj;cases e;rw[h1,List.getD_eq_getElem?_getD,List.getElem?_eq_getElem hj];rfl
theorem Bytes.dH {w:World}{v:Value}{l:List Nat}(h:Bytes w v l)(j:Nat):l.getD j 0<256:=by
 rw[List.getD_eq_getElem?_getD];cases e:l[j]? with
 | none=>simp
 | some x=>exact h.lt x (List.mem_of_getElem? e)

theorem Bytes.sliced {w:World}{a:Option Addr}{n c:Nat}{l:List Nat}(h:Bytes w (.slice a n c) l)(lo hi:Nat)(h1:lo<=hi)(h2:hi<=l.length)(m:Nat)(hm:hi<=m)(_hmc:m<=c) :
  ∃a',Go.sliced a lo hi m 1 = .slice a' (hi-lo) (m-lo)/\Bytes w (.slice a' (hi-lo) (m-lo)) ((l.take hi).drop lo):=by
 obtain⟨rfl,hle,hc⟩:=h.cells;have hlen:((l.take hi).drop lo).length=hi-lo:=by simp;omega
 refine⟨_,rfl,⟨_,_,by rw[hlen],by omega⟩,⟨_,_,by rw[aD,hlen],fun j hj=>?_⟩,fun x hx=>h.lt x (List.mem_of_mem_take (List.mem_of_mem_drop hx)),by rw[hlen];have:=h.small;omega⟩;rw[aD,hlen]at hj;obtain⟨b,o,rfl,hcell⟩:=hc (lo+j) (by omega);refine⟨b,o+lo,?_,?_⟩
 ·rw[if_neg (by omega)];simp[Addr.add_lit]
 ·rw[Nat.add_assoc,hcell,ints_at];simp

theorem wC (a:Option Addr)(lo hi m:Nat)(n c:Nat):(Go.sliced a lo hi m 1).ownBlock=(Value.slice a n c).ownBlock:=by
 unfold Go.sliced;split
 ·cases a<;>rfl
 ·cases a with
  | none=>rfl
  | some x =>
   obtain⟨b,o,s⟩:=x;simp only[Option.map_some,Value.ownBlock,Addr.add];split<;>rfl

section
variable {P:Program} {t e:TypeId} (I:eE P t e .u8 1)
include I
theorem kK (w:World):(sizeOf e).run P w = .ok 1 w:=by
 obtain⟨i,hi,_,h1,_⟩:=info_parts I.info;simp[sizeOf,typeInfo,hi,h1,go_sem]
theorem iE:P.elem t=e:=by
 simp[Program.elem,I.under]
theorem Bytes.cut {w:World}{a:Option Addr}{n c:Nat}{l:List Nat}(h:Bytes w (.slice a n c) l)(lo hi:Nat)(h1:lo<=hi)(h2:hi<=l.length) :
  ∃a' c',Bytes w (.slice a' (hi-lo) c') ((l.take hi).drop lo) /\ ∀w',(Instr.slice t (.slice a n c) (some (.int .i64 lo)) (some (.int .i64 hi)) none).run P w' = .ok (.slice a' (hi-lo) c') w':=by
 obtain⟨hn,hle,_⟩:=h.cells;obtain⟨a',e1,e2⟩:=h.sliced lo hi h1 h2 c (by omega) (Nat.le_refl _);refine⟨a',c-lo,e2,fun w'=>?_⟩;rw[run_slice_lh w' t a n c (by rw[iE I];exact I.under) .i64 .i64 lo hi (by omega) (by omega) (by omega),iE I,kK I];simp[Result.andThen,e1]
theorem Bytes.aKC {w:World}{a:Option Addr}{n c:Nat}{l:List Nat}(h:Bytes w (.slice a n c) l)(hi:Nat)(h2:hi<=l.length) :
  ∃a' c',Bytes w (.slice a' hi c') (l.take hi) /\ ∀w',(Instr.slice t (.slice a n c) none (some (.int .i64 hi)) none).run P w' = .ok (.slice a' hi c') w':=by
 obtain⟨hn,hle,_⟩:=h.cells;obtain⟨a',e1,e2⟩:=h.sliced 0 hi (Nat.zero_le _) h2 c (by omega) (Nat.le_refl _);refine⟨a',c,by simpa using e2,fun w'=>?_⟩;rw[run_slice_h w' t a n c (by rw[iE I];exact I.under) .i64 hi (by omega) (by omega),iE I,kK I];simp[Result.andThen,e1]
theorem Bytes.aMq {w:World}{a:Option Addr}{n c:Nat}{l:List Nat}(h:Bytes w (.slice a n c) l)(lo:Nat)(h1:lo<=l.length) :
  ∃a' c',Bytes w (.slice a' (l.length-lo) c') (l.drop lo) /\ ∀w',(Instr.slice t (.slice a n c) (some (.int .i64 lo)) none none).run P w' = .ok (.slice a' (l.length-lo) c') w':=by
 obtain⟨hn,hle,_⟩:=h.cells;obtain⟨a',e1,e2⟩:=h.sliced lo l.length h1 (Nat.le_refl _) c (by omega) (Nat.le_refl _);refine⟨a',c-lo,by simpa using e2,fun w'=>?_⟩;rw[run_slice_l w' t a n c (by rw[iE I];exact I.under) .i64 lo (by omega) (by omega),iE I,kK I,hn];simp[Result.andThen,e1]
theorem Bytes.aOL {w:World}{v:Value}{l:List Nat}(h:Bytes w v l)(lo:Nat)(h1:lo<=l.length):∃v',Bytes w v' (l.drop lo) /\ ∀w',(Instr.slice t v (Option.some (Value.int .i64 lo)) none none).run P w' = .ok v' w':=by
 obtain⟨a,c,rfl,_⟩:=h.shape;obtain⟨a',c',e1,e2⟩:=h.aMq I lo h1;exact⟨_,e1,e2⟩
theorem Bytes.aMr {w:World}{v:Value}{l:List Nat}(h:Bytes w v l)(hi:Nat)(h1:hi<=l.length):∃v',Bytes w v' (l.take hi) /\ ∀w',(Instr.slice t v none (Option.some (Value.int .i64 hi)) none).run P w' = .ok v' w':=by
 obtain⟨a,c,rfl,_⟩:=h.shape;obtain⟨a',c',e1,e2⟩:=h.aKC I hi h1;exact⟨_,e1,e2⟩
theorem Bytes.aMs {w:World}{v:Value}{l:List Nat}(h:Bytes w v l)(lo hi:Nat)(h1:lo<=hi)(h2:hi<=l.length):∃v',Bytes w v' ((l.take hi).drop lo) /\ ∀w',(Instr.slice t v (Option.some (Value.int .i64 lo)) (Option.some (Value.int .i64 hi)) none).run P w' = .ok v' w':=by
 obtain⟨a,c,rfl,_⟩:=h.shape;obtain⟨a',c',e1,e2⟩:=h.cut I lo hi h1 h2;exact⟨_,e1,e2⟩
theorem Bytes.aAA {w:World}{v:Value}{l:List Nat}(h:Bytes w v l)(lo:Nat)(h1:lo<=l.length):∃v',Bytes w v' (l.drop lo)/\v'.ownBlock=v.ownBlock /\ ∀w',(Instr.slice t v (Option.some (Value.int .i64 lo)) none none).run P w' = .ok v' w':=by
 obtain⟨a,c,rfl,hle⟩:=h.shape;obtain⟨hn,_,_⟩:=h.cells;obtain⟨a',e1,e2⟩:=h.sliced lo l.length h1 (Nat.le_refl _) c (by omega) (Nat.le_refl _);refine⟨Go.sliced a lo l.length c 1,by rw[e1];simpa using e2,wC _ _ _ _ _ _,fun w'=>?_⟩;rw[run_slice_l w' t a l.length c (by rw[iE I];exact I.under) .i64 lo (by omega) (by omega),iE I,kK I];simp[Result.andThen]
end
end Go.Proofs.YtgeihgombjbkbaaGreat
namespace Go.Proofs.YtgeihgombjbkbaaGreat
open Go.Lib (hid)
open Go.RowKit Go.Maps Go.Proofs.Own

def frP (k:Nat)(l:List Nat):List Nat:=kV ([102,k,l.length / 65536,l.length / 256 % 256,l.length % 256]++l)
theorem jA (l:List Nat):(kV l).length=l.length+3:=by simp[kV]
theorem uW {l:List Nat}(h:∀c ∈ l,c<256):∀c ∈ kV l,c<256:=by
 have:=nO l h;intro c hc;simp only[kV,List.mem_append,List.mem_cons,List.not_mem_nil,or_false]at hc;rcases hc with hc|rfl|rfl|rfl
 ·exact h c hc
 ·omega
 ·omega
 ·omega
theorem pZ {k n:Nat}{l:List Nat}(hk:k<256)(hn:n<16777216)(h:∀c ∈ l,c<256):∀c ∈ [102,k,n / 65536,n / 256 % 256,n % 256]++l,c<256:=by
 intro c hc;simp only[List.mem_append,List.mem_cons,List.not_mem_nil,or_false]at hc;rcases hc with (rfl|rfl|rfl|rfl|rfl)|hc
 ·decide
 ·exact hk
 ·omega
 ·omega
 ·omega
 ·exact h c hc

theorem wG (k:Nat)(v:Value)(l:List Nat)(w:World)(hB:Bytes w v l)(hk:k<256)(hlen:l.length<=100000) :
  Calls Tryz.prog 12 #[.int .u8 k,v] w fun e w'=>∃v',e = .returned v'/\Bytes w' v' (frP k l)/\Below w.heap.size w w'/\aX w' w.heap.size 5 .u8 v' (ints (frP k l)):=by
 have HB:=hid hB;have hli:(ints l).length<=100000:=by rw[aD];exact hlen
 obtain⟨a,c,rfl,_⟩:=hB.shape;clear hB;have HLN:Hid (([102,(k:Int),(l.length:Int) / 65536,(l.length:Int) / 256 % 256,(l.length:Int) % 256]:List Int).length+(ints l).length<=4294967296):=hid (by simp only[List.length_cons,List.length_nil];omega);go_enter Tryz.func12,Tryz.ntmps12;have HN:Hid (∃n,n=l.length):=hid ⟨_,rfl⟩;have H5:Hid (∀y0 y1 y2 y3 y4:Int,aX (w.alloc (.cells #[.int .u8 y0,.int .u8 y1,.int .u8 y2,.int .u8 y3,.int .u8 y4] 5)) w.heap.size 5 .u8 (.slice (some ⟨w.heap.size,0,none⟩) 5 5) [y0,y1,y2,y3,y4]) :=
  hid fun y0 y1 y2 y3 y4=>aX.lit (zs:=[y0,y1,y2,y3,y4]) (heap_alloc_new _ _) (Nat.le_refl _) (by simp)
 go_wp2_with (at_builtin;refine aG Tryz.u8s _ _ rfl w.heap.size _ _ _ _ rfl rfl (H5.out _ _ _ _ _) (HB.out.rd.alloc _) (by decide) HLN.out (by simp) rfl ?_;intro v2 w2 hown2 hgr2 hat2 hnil2 hbel2;have HO2:=hid hown2;have B2:=hid hbel2;clear hown2 hgr2 hat2 hnil2 hbel2)
 have hlt:=pZ (n:=l.length) hk (by omega) HB.out.lt;have hi:ints ([102,k,l.length / 65536,l.length / 256 % 256,l.length % 256]++l) = [102,(k:Int),(l.length:Int) / 65536,(l.length:Int) / 256 % 256,(l.length:Int) % 256]++ints l:=by
  simp only[ints,List.map_append,List.map_cons,List.map_nil];rfl
 refine(zH v2 ([102,k,l.length / 65536,l.length / 256 % 256,l.length % 256]++l) w2 (by rw[hi];exact HO2.out.reads) hlt (by simp;omega)).mono ?_;rintro e w3 ⟨v3,rfl,hown3,hb3⟩;clear hi;have HO3:=hid hown3;have B3:=hid hb3;have HLT:=hid hlt;clear hown3 hb3 hlt;go_wp2_with fail;go_ret;have B2':Below w.heap.size w w2:=((Below.refl _ _).alloc (Nat.le_refl _) _).trans B2.out;exact⟨v3,rfl,Bytes.dJ HO3.out (uW HLT.out) (by rw[frP,jA];simp;omega),B2'.trans (B3.out.mono B2'.size),HO3.out.lower fun g hg=>Nat.le_trans B2'.size (HO3.out.lt g hg).1⟩

theorem aJd (k:Nat)(v:Value)(l:List Nat)(w:World)(hB:Bytes w v l)(hk:k<256)(hk0:k≠0)(hlen:l.length<=65536) :
  Calls Tryz.prog 38 #[.int .u8 k,v] w fun e w'=>∃v',e = .returned (.tuple #[v',.int .i64 0])/\Bytes w' v' (frP k l)/\Below w.heap.size w w'/\aX w' w.heap.size 5 .u8 v' (ints (frP k l)):=by
 have HB:=hid hB;have hli:(ints l).length<=65536:=by rw[aD];exact hlen
 have hkb:((k:Int)==0)=false:=by simp;omega
 have HK0:=hid hk0;clear hk0;have hlen':(l.length:Int)<=65536:=by omega
 obtain⟨a,c,rfl,_⟩:=hB.shape;clear hB;have HLN:Hid (([102,(k:Int),(l.length:Int) / 65536,(l.length:Int) / 256 % 256,(l.length:Int) % 256]:List Int).length+(ints l).length<=4294967296):=hid (by simp only[List.length_cons,List.length_nil];omega);go_enter Tryz.func38,Tryz.ntmps38;have H5:Hid (∀y0 y1 y2 y3 y4:Int,aX (w.alloc (.cells #[.int .u8 y0,.int .u8 y1,.int .u8 y2,.int .u8 y3,.int .u8 y4] 5)) w.heap.size 5 .u8 (.slice (some ⟨w.heap.size,0,none⟩) 5 5) [y0,y1,y2,y3,y4]) :=
  hid fun y0 y1 y2 y3 y4=>aX.lit (zs:=[y0,y1,y2,y3,y4]) (heap_alloc_new _ _) (Nat.le_refl _) (by simp)
 go_wp2_with (at_builtin;refine aG Tryz.u8s _ _ rfl w.heap.size _ _ _ _ rfl rfl (H5.out _ _ _ _ _) (HB.out.rd.alloc _) (by decide) HLN.out (by simp) rfl ?_;intro v2 w2 hown2 hgr2 hat2 hnil2 hbel2;have HO2:=hid hown2;have B2:=hid hbel2;clear hown2 hgr2 hat2 hnil2 hbel2)
 have hlt:=pZ (n:=l.length) hk (by omega) HB.out.lt;have hi:ints ([102,k,l.length / 65536,l.length / 256 % 256,l.length % 256]++l) = [102,(k:Int),(l.length:Int) / 65536,(l.length:Int) / 256 % 256,(l.length:Int) % 256]++ints l:=by
  simp only[ints,List.map_append,List.map_cons,List.map_nil];rfl
 refine(aIV v2 ([102,k,l.length / 65536,l.length / 256 % 256,l.length % 256]++l) w2 (by rw[hi];exact HO2.out.reads) hlt (by simp;omega)).mono ?_;rintro e w3 ⟨v3,rfl,hown3,hb3⟩;clear hi;have HO3:=hid hown3;have B3:=hid hb3;have HLT:=hid hlt;clear hown3 hb3 hlt;go_wp2_with fail
 go_ret2
 have B2':Below w.heap.size w w2:=((Below.refl _ _).alloc (Nat.le_refl _) _).trans B2.out;exact⟨v3,rfl,Bytes.dJ HO3.out (uW HLT.out) (by rw[frP,jA];simp;omega),B2'.trans (B3.out.mono B2'.size),HO3.out.lower fun g hg=>Nat.le_trans B2'.size (HO3.out.lt g hg).1⟩
theorem aJc (k:Nat)(v:Value)(l:List Nat)(w:World)(hB:Bytes w v l)(hk:k<256)(hk0:k≠0)(hlen:l.length<=65536) :
  Calls Tryz.prog 38 #[.int .u8 k,v] w fun e w'=>∃v',e = .returned (.tuple #[v',.int .i64 0])/\Bytes w' v' (frP k l)/\Below w.heap.size w w' /\ ∀g,v'.ownBlock=some g->w.heap.size<=g :=
 (aJd k v l w hB hk hk0 hlen).mono fun _ _ ⟨v',h1,h2,h3,h4⟩=>⟨v',h1,h2,h3,fun g hg=>(h4.lt g hg).1⟩

theorem aMC (a b:Nat)(ha:a<4294967296)(hb:b<4294967296):bits .or .u32 (a:Int) (b:Int)=((a ||| b:Nat):Int):=by
 have hx:a ||| b<2 ^ 32:=Nat.or_lt_two_pow (by omega) (by omega)
 show IntKind.u32.wrap ((BitVec.ofInt 32 (a:Int) ||| BitVec.ofInt 32 (b:Int)).toNat:Int)=_;rw[BitVec.toNat_or,ofInt32 a ha,ofInt32 b hb,wrap32];omega
def be3 (x y z:Nat):Nat:=x*65536+y*256+z
theorem aIn (x y z:Nat)(hy:y<256)(hz:z<256):(x*65536 ||| y*256) ||| z=be3 x y z:=by
 have h1:x*65536 ||| y*256=x*65536+y*256:=by
  have:=Nat.two_pow_add_eq_or_of_lt (i:=16) (b:=y*256) (by omega) x;rw[show 2 ^ 16*x=x*65536 by omega]at this;exact this.symm
 have h2:=Nat.two_pow_add_eq_or_of_lt (i:=8) (b:=z) (by omega) (x*256+y);rw[h1];unfold be3;rw[show x*65536+y*256=2 ^ 8*(x*256+y) by omega,h2]
theorem aKO (x y z:Nat)(hx:x<256)(hy:y<256)(hz:z<256):bits BinOp.or .u32 (bits BinOp.or .u32 ((x:Int)*65536) ((y:Int)*256)) (z:Int)=(be3 x y z:Int):=by
 have o1:x*65536 ||| y*256<2 ^ 24:=Nat.or_lt_two_pow (by omega) (by omega)
 rw[show ((x:Int)*65536)=((x*65536:Nat):Int) by omega,show ((y:Int)*256)=((y*256:Nat):Int) by omega,aMC _ _ (by omega) (by omega),aMC _ _ (by omega) (by omega),aIn x y z hy hz]

def kN (m:Nat)(l:List Nat):Prop:=iT (l.take m)=be3 (l.getD m 0) (l.getD (m+1) 0) (l.getD (m+2) 0)
instance (m:Nat) (l:List Nat):Decidable (kN m l):=inferInstanceAs (Decidable (_=_))

theorem yA (v:Value)(l:List Nat)(m:Nat)(w:World)(hB:Bytes w v l)(hm:l.length=m+3) :
  Calls Tryz.prog 117 #[v] w fun e w'=>Below w.heap.size w w'/\(kN m l -> ∃v',e = .returned (.tuple #[v',.bool true])/\Bytes w' v' (l.take m))/\(¬kN m l->e = .returned (.tuple #[.slice none 0 0,.bool false])):=by
 have HB:=hid hB;obtain⟨b,o,c,rfl,hle,hbs,hcell⟩:=hB.eR (by omega);obtain⟨a',c',hB',hcut⟩:=hB.aKC Tryz.u8s m (by omega);rw[hm]at hcut ⊢;have c0:=hcell m (by omega);have c1:=hcell (m+1) (by omega);have c2:=hcell (m+2) (by omega);have hx:=hB.dH m;have hy:=hB.dH (m+1);have hz:=hB.dH (m+2);have HM:=hid hm;have HB':=hid hB';have hmm:=hB'.small;have hl':=hB'.lt;clear hB hB' hcell hm hle;have HS:Hid (kN m l ↔ iT (l.take m)=be3 (l.getD m 0) (l.getD (m+1) 0) (l.getD (m+2) 0)):=hid Iff.rfl;generalize l.getD m 0=x at c0 hx HS;generalize l.getD (m+1) 0=y at c1 hy HS;generalize l.getD (m+2) 0=z at c2 hz HS;have hv:=aKO x y z hx hy hz;have hbe:be3 x y z<4294967296:=by unfold be3;omega
 generalize be3 x y z=q at hv HS hbe;have hge:¬((m:Int)+3-3<0):=by omega
 have i0:(0:Int)<=(m:Int):=by omega
 have ib:(m:Int)<=2097152:=by have:=HB.out.small;have:=HM.out;omega
 have i1:(m:Int)+1<(m:Int)+3:=by omega
 have i2:(m:Int)+2<(m:Int)+3:=by omega
 have i3:(m:Int)<(m:Int)+3:=by omega
 have j1:(0:Int)<=(m:Int)+1:=by omega
 have j2:(0:Int)<=(m:Int)+2:=by omega
 have t1:((m:Int)+1).toNat=m+1:=by omega
 have t2:((m:Int)+2).toNat=m+2:=by omega
 go_enter Tryz.func117,Tryz.ntmps117;go_wp2_with fail
 go_quiet (fail)
 go_wp2_with fail;refine(aHZ _ (l.take m) q _ (HB'.out.drewN nq).rd hl' hmm).mono ?_;rintro e w1 ⟨rfl,hb1⟩;have HB1:Hid (Below w.heap.size w w1):=hid ((Below.drewN w nq).trans hb1);clear hb1 hv;by_cases hs:iT (l.take m)=q
 ·have hd:decide (iT (l.take m)=q)=true:=by simp[hs]
  have HS2:Hid (kN m l):=hid (HS.out.2 hs);clear hs;rw[hd];go_wp2_with fail;refine(rC _ _ _ ((HB'.out.below HB1.out).rd) (by rw[aD];exact hmm)).mono ?_;rintro e w2 ⟨v,rfl,hown,hb2⟩;go_wp2_with fail
  go_ret2
  exact⟨HB1.out.trans (hb2.mono HB1.out.size),fun _=>⟨v,rfl,Bytes.dJ hown hl' hmm⟩,fun h=>absurd HS2.out h⟩
 ·have hd:decide (iT (l.take m)=q)=false:=by simp[hs]
  have HS2:Hid (¬kN m l):=hid fun h=>hs (HS.out.1 h);clear hs;rw[hd];go_wp2_with fail
  go_ret2
  exact⟨HB1.out,fun h=>absurd h HS2.out,fun _=>rfl⟩

def frN (l:List Nat):Nat:=be3 (l.getD 2 0) (l.getD 3 0) (l.getD 4 0)
def cX (l:List Nat):Nat :=
 if l.length=0 then 23 else if l.getD 0 0≠102 then 20 else if l.length<2 then 23 else if l.getD 1 0=0 then 20 else if l.length<5 then 23 else
 if 65536<frN l then 20 else if l.length<frN l+8 then 23 else 0
def iK (l:List Nat):Nat:=if cX l≠0 then cX l else if kN (frN l+5) (l.take (frN l+8)) then 0 else 22
theorem zK {l:List Nat}(h:cX l=0):5<=l.length/\frN l<=65536/\frN l+8<=l.length:=by
 unfold cX at h;split at h;· omega
 split at h;· omega
 split at h;· omega
 split at h;· omega
 split at h;· omega
 split at h;· omega
 split at h;· omega
 omega

theorem aMD (a b:Nat)(ha:a<4294967296)(hb:b<4294967296):bits .or .i64 (a:Int) (b:Int)=((a ||| b:Nat):Int):=by
 have hx:a ||| b<2 ^ 32:=Nat.or_lt_two_pow (by omega) (by omega)
 show IntKind.i64.wrap ((BitVec.ofInt 64 (a:Int) ||| BitVec.ofInt 64 (b:Int)).toNat:Int)=_;have h64:∀n:Nat,n<4294967296->(BitVec.ofInt 64 (n:Int)).toNat=n:=fun n hn=>by
  rw[BitVec.ofInt_natCast,BitVec.toNat_ofNat];exact Nat.mod_eq_of_lt (by omega)
 rw[BitVec.toNat_or,h64 a ha,h64 b hb,IntKind.wrap_i64];omega
theorem aKP (x y z:Nat)(hx:x<256)(hy:y<256)(hz:z<256):bits BinOp.or .i64 (bits BinOp.or .i64 ((x:Int)*65536) ((y:Int)*256)) (z:Int)=(be3 x y z:Int):=by
 have o1:x*65536 ||| y*256<2 ^ 24:=Nat.or_lt_two_pow (by omega) (by omega)
 rw[show ((x:Int)*65536)=((x*65536:Nat):Int) by omega,show ((y:Int)*256)=((y*256:Nat):Int) by omega,aMD _ _ (by omega) (by omega),aMD _ _ (by omega) (by omega),aIn x y z hy hz]

def szN (l:List Nat):Nat:=if cX l=0 then frN l+8 else 0
def SP (n e:Nat)(w:World):Ending->World->Prop:=fun E w'=>E = .returned (.tuple #[.int .i64 n,.int .i64 e])/\Below w.heap.size w w'
theorem kC {l:List Nat}{k:Nat}(h:cX l=k)(h0:k≠0):szN l=0:=by simp[szN,h,h0]

theorem aMJ (v:Value)(l:List Nat)(w:World)(hB:Bytes w v l)(h0:l.length=0):Calls Tryz.prog 116 #[v] w (SP (szN l) (cX l) w):=by
 have hs:cX l=23:=by simp[cX,h0]
 rw[kC hs (by decide),hs];obtain⟨a,c,rfl,_⟩:=hB.shape;rw[h0];clear hs h0 hB;go_enter Tryz.func116,Tryz.ntmps116;go_wp2_with fail
 go_ret2
 exact⟨rfl,Below.refl _ _⟩

theorem aMK (v:Value)(l:List Nat)(w:World)(hB:Bytes w v l)(h0:l.length=1):Calls Tryz.prog 116 #[v] w (SP (szN l) (cX l) w):=by
 obtain⟨b,o,c,rfl,hle,hbs,hcell⟩:=hB.eR (by omega);have c0:w.cell? ⟨b,o,none⟩=some (.int .u8 (l.getD 0 0:Nat)):=hcell 0 (by omega);have hs:cX l=if l.getD 0 0≠102 then 20 else 23:=by simp[cX,h0]
 rw[h0];clear h0 hB hcell;generalize l.getD 0 0=x at c0 hs;by_cases hx:x=102
 ·rw[if_neg (by omega)]at hs;rw[kC hs (by decide),hs];have hb:((x:Int) != 102)=false:=by simp;omega
  clear hx hs;go_enter Tryz.func116,Tryz.ntmps116;go_wp2_with fail
  go_ret2
  exact⟨rfl,Below.refl _ _⟩
 ·rw[if_pos hx]at hs;rw[kC hs (by decide),hs];have hb:((x:Int) != 102)=true:=by simp;omega
  clear hx hs;go_enter Tryz.func116,Tryz.ntmps116;go_wp2_with fail
  go_ret2
  exact⟨rfl,Below.refl _ _⟩

theorem aML (v:Value)(l:List Nat)(w:World)(hB:Bytes w v l)(h0:l.length=2\/l.length=3\/l.length=4):Calls Tryz.prog 116 #[v] w (SP (szN l) (cX l) w):=by
 obtain⟨b,o,c,rfl,hle,hbs,hcell⟩:=hB.eR (by omega);have c0:w.cell? ⟨b,o,none⟩=some (.int .u8 (l.getD 0 0:Nat)):=hcell 0 (by omega);have c1:=hcell 1 (by omega);have hs:cX l=if l.getD 0 0≠102 then 20 else if l.getD 1 0=0 then 20 else 23:=by
  unfold cX;rw[if_neg (by omega),if_neg (show ¬l.length<2 by omega),if_pos (show l.length<5 by omega)]
 clear hB hcell hle;generalize l.getD 0 0=x at c0 hs;generalize l.getD 1 0=y at c1 hs;have key:∃k:Nat,k≠0/\cX l=k/\((k=20/\((y:Int)==0)=true)\/(k=20/\((y:Int)==0)=false/\((x:Int) != 102)=true)\/(k=23/\((y:Int)==0)=false/\((x:Int) != 102)=false)):=by
  by_cases hy:y=0
  ·exact⟨20,by decide,by rw[hs,if_pos hy];simp,.inl ⟨rfl,by simp;omega⟩⟩
  ·by_cases hx:x=102
   ·exact⟨23,by decide,by rw[hs,if_neg hy];simp[hx],.inr (.inr ⟨rfl,by simp;omega,by simp;omega⟩)⟩
   ·exact⟨20,by decide,by rw[hs,if_pos hx],.inr (.inl ⟨rfl,by simp;omega,by simp;omega⟩)⟩
 obtain⟨k,hk,hsk,key⟩:=key;rw[kC hsk hk,hsk];clear hs hsk hk;rcases key with ⟨rfl,k1⟩|⟨rfl,k1,k2⟩|⟨rfl,k1,k2⟩<;>rcases h0 with h0|h0|h0
 all_goals
  rw[h0];clear h0;go_enter Tryz.func116,Tryz.ntmps116;go_wp2_with fail
  go_ret2
  exact⟨rfl,Below.refl _ _⟩

theorem aMM (v:Value)(l:List Nat)(w:World)(m:Nat)(hB:Bytes w v l)(h0:l.length=m+5):Calls Tryz.prog 116 #[v] w (SP (szN l) (cX l) w):=by
 obtain⟨b,o,c,rfl,hle,hbs,hcell⟩:=hB.eR (by omega);have c0:w.cell? ⟨b,o,none⟩=some (.int .u8 (l.getD 0 0:Nat)):=hcell 0 (by omega);have c1:=hcell 1 (by omega);have c2:=hcell 2 (by omega);have c3:=hcell 3 (by omega);have c4:=hcell 4 (by omega);have x2:=hB.dH 2;have x3:=hB.dH 3;have x4:=hB.dH 4;have hmb:(m:Int)<=2097152:=by have:=hB.small;omega
 have hs:cX l=if l.getD 0 0≠102 then 20 else if l.getD 1 0=0 then 20 else if 65536<frN l then 20 else if m+5<frN l+8 then 23 else 0:=by
  unfold cX;rw[if_neg (by omega),if_neg (show ¬l.length<2 by omega),if_neg (show ¬l.length<5 by omega),h0]
 have hN:frN l=be3 (l.getD 2 0) (l.getD 3 0) (l.getD 4 0):=rfl;have HN:=hid hN;rw[h0];clear hN hB hcell hle h0;generalize l.getD 0 0=x at c0 hs;generalize l.getD 1 0=y at c1 hs;generalize l.getD 2 0=p at c2 x2 HN;generalize l.getD 3 0=q at c3 x3 HN;generalize l.getD 4 0=r at c4 x4 HN;have hv:=aKP p q r x2 x3 x4;rw[<- HN.out]at hv;have key:∃k n8:Nat,cX l=k/\szN l=n8/\((k=20/\n8=0/\(65536:Int)<(frN l:Int))\/((frN l:Int)<=65536/\((k=20/\n8=0/\((y:Int)==0)=true)\/(k=20/\n8=0/\((y:Int)==0)=false/\((x:Int) != 102)=true) \/
   (k=23/\n8=0/\((y:Int)==0)=false/\((x:Int) != 102)=false/\(m:Int)+5<(frN l:Int)+8)\/(k=0/\n8=frN l+8/\((y:Int)==0)=false/\((x:Int) != 102)=false/\(frN l:Int)+8<=(m:Int)+5)))):=by
  by_cases hn:65536<frN l
  ·have e:cX l=20:=by rw[hs];split<;>(try rfl);split<;>(try rfl)
   exact⟨20,0,e,kC e (by decide),.inl ⟨rfl,rfl,by omega⟩⟩
  ·by_cases hy:y=0
   ·have e:cX l=20:=by rw[hs,if_pos hy];simp
    exact⟨20,0,e,kC e (by decide),.inr ⟨by omega,.inl ⟨rfl,rfl,by simp;omega⟩⟩⟩
   ·by_cases hx:x=102
    ·by_cases ht:m+5<frN l+8
     ·have e:cX l=23:=by rw[hs,if_neg hy,if_neg hn,if_pos ht];simp[hx]
      exact⟨23,0,e,kC e (by decide),.inr ⟨by omega,.inr (.inr (.inl ⟨rfl,rfl,by simp;omega,by simp;omega,by omega⟩))⟩⟩
     ·have e:cX l=0:=by rw[hs,if_neg hy,if_neg hn,if_neg ht];simp[hx]
      exact⟨0,_,e,by rw[szN,if_pos e],.inr ⟨by omega,.inr (.inr (.inr ⟨rfl,rfl,by simp;omega,by simp;omega,by omega⟩))⟩⟩
    ·have e:cX l=20:=by rw[hs,if_pos hx]
     exact⟨20,0,e,kC e (by decide),.inr ⟨by omega,.inr (.inl ⟨rfl,rfl,by simp;omega,by simp;omega⟩)⟩⟩
 clear HN hs;have hn4:((m:Int)+5==4)=false:=by simp;omega
 have hn3:((m:Int)+5==3)=false:=by simp;omega
 have hn2:((m:Int)+5==2)=false:=by simp;omega
 have hn1:((m:Int)+5==1)=false:=by simp;omega
 have hn0:((m:Int)+5==0)=false:=by simp;omega
 have i2:(2:Int)<(m:Int)+5:=by omega
 have i3:(3:Int)<(m:Int)+5:=by omega
 have i4:(4:Int)<(m:Int)+5:=by omega
 have i1:(1:Int)<(m:Int)+5:=by omega
 have i0:(0:Int)<(m:Int)+5:=by omega
 obtain⟨k,n8,e1,e2,key⟩:=key;rw[e1,e2];clear e1 e2;generalize frN l=n at hv key;have hz:((n:Int)+8==0)=false:=by simp;omega
 rcases key with ⟨rfl,rfl,hn⟩|⟨hn,⟨rfl,rfl,hy⟩|⟨rfl,rfl,hy,hx⟩|⟨rfl,rfl,hy,hx,ht⟩|⟨rfl,rfl,hy,hx,ht⟩⟩
 ·go_enter Tryz.func116,Tryz.ntmps116;go_wp2_with fail
  go_quiet (fail)
  go_wp2_with fail
  go_ret2
  exact⟨rfl,Below.drewN _ _⟩
 ·go_enter Tryz.func116,Tryz.ntmps116;go_wp2_with fail
  go_quiet (fail)
  go_wp2_with fail
  go_ret2
  exact⟨rfl,Below.drewN _ _⟩
 ·go_enter Tryz.func116,Tryz.ntmps116;go_wp2_with fail
  go_quiet (fail)
  go_wp2_with fail
  go_ret2
  exact⟨rfl,Below.drewN _ _⟩
 ·go_enter Tryz.func116,Tryz.ntmps116;go_wp2_with fail
  go_quiet (fail)
  go_wp2_with fail
  go_ret2
  exact⟨rfl,Below.drewN _ _⟩
 ·go_enter Tryz.func116,Tryz.ntmps116;go_wp2_with fail
  go_quiet (fail)
  go_wp2_with fail
  go_ret2
  exact⟨rfl,Below.drewN _ _⟩

theorem vA (v:Value)(l:List Nat)(w:World)(hB:Bytes w v l):Calls Tryz.prog 116 #[v] w (SP (szN l) (cX l) w):=by
 by_cases h0:l.length=0
 ·exact aMJ v l w hB h0
 ·by_cases h1:l.length=1
  ·exact aMK v l w hB h1
  ·by_cases h2:l.length<5
   ·exact aML v l w hB (by omega)
   ·exact aMM v l w (l.length-5) hB (by omega)

def gH (l:List Nat):List Nat:=(l.take (frN l+5)).drop 5
def aAc (l:List Nat)(w:World):Ending->World->Prop:=fun E w'=>Below w.heap.size w w' /\
 (iK l≠0->E = .returned (.tuple #[.int .u8 0,.slice none 0 0,.int .i64 0,.int .i64 (iK l)])) /\
 (iK l=0 -> ∃v',E = .returned (.tuple #[.int .u8 (l.getD 1 0:Nat),v',.int .i64 (frN l+8:Nat),.int .i64 0])/\Bytes w' v' (gH l))

theorem oZ (v:Value)(l:List Nat)(w:World)(hB:Bytes w v l):Calls Tryz.prog 70 #[v] w (aAc l w):=by
 have HB:=hid hB;by_cases hs:cX l=0
 ·obtain⟨h5,hN,hlen⟩:=zK hs;have hsz:szN l=frN l+8:=by rw[szN,if_pos hs]
  obtain⟨t,ht⟩:∃t,t=frN l+8:=⟨_,rfl⟩;obtain⟨v1,hB1,hcut⟩:=hB.aMr Tryz.u8s t (by omega);have hl1:(l.take t).length=frN l+5+3:=by rw[List.length_take];omega
  have HB1:=hid hB1;have HL1:=hid hl1;have HT:=hid ht;have HS:=hid hs;have HZ:Hid (szN l=t):=hid (by omega);have hsum:iK l=if kN (frN l+5) (l.take t) then 0 else 22:=by rw[ht];simp[iK,hs]
  have HSUM:=hid hsum;obtain⟨a,c,rfl,_⟩:=hB.shape;clear hs hsz hB hB1 hl1 ht h5 hlen hsum;go_enter Tryz.func70,Tryz.ntmps70;go_wp2_with fail;refine(vA _ l _ HB.out).mono ?_;rintro e w1 ⟨rfl,hb1⟩;rw[HZ.out,HS.out];have B1:=hid hb1;clear hb1;go_wp2_with fail;refine(yA v1 (l.take t) (frN l+5) _ (HB1.out.below B1.out) HL1.out).mono ?_;rintro e w2 ⟨hb2,hyes,hno⟩;have B2:Hid (Below w.heap.size w w2):=hid (B1.out.trans (hb2.mono B1.out.size));clear hb2;by_cases hok:kN (frN l+5) (l.take t)
  ·obtain⟨v2,rfl,hB2⟩:=hyes hok;have HF:Hid (iK l=0):=hid (by rw[HSUM.out,if_pos hok]);clear hyes hno hok HSUM;have e1:((l.take t).take (frN l+5))=l.take (frN l+5):=by
    have:=HT.out;rw[List.take_take];congr 1;omega
   rw[e1]at hB2;have hl2:(l.take (frN l+5)).length=frN l+5:=by
    have:=HL1.out;rw[List.length_take]at this ⊢;omega
   obtain⟨v3,hB3,hcut3⟩:=hB2.aOL Tryz.u8s 5 (by omega);have HB3:Hid (Bytes w2 v3 (gH l)):=hid hB3;obtain⟨b,o,c2,rfl,hle,hbs,hcell⟩:=hB2.eR (by omega);have c1:=hcell 1 (by omega);have e2:(l.take (frN l+5)).getD 1 0=l.getD 1 0:=by
    simp only[List.getD_eq_getElem?_getD];rw[List.getElem?_take_of_lt (by omega)]
   rw[e2]at c1;rw[hl2]at hcut3 ⊢;have hcut3':∀w',(Instr.slice 22 (.slice (some ⟨b,o,none⟩) (frN l+5) c2) (some (.int .i64 5)) none none).run Tryz.prog w' = .ok v3 w':=hcut3;have hi1:(1:Int)<(frN l:Int)+5:=by omega
   have hx:l.getD 1 0<256:=HB.out.dH 1;have HR:Hid ((t:Int)=((frN l+8:Nat):Int)):=hid (by rw[HT.out]);clear hcut3 hcell hle hB2 hB3 e1 e2 hl2 hcut;generalize hxe:l.getD 1 0=x at c1 hx;have HX:=hid hxe;clear hxe;go_wp2_with fail
   go_quiet (fail)
   go_wp2_with fail;refine bodyPost_ret (v:=.tuple #[.int .u8 x,v3,.int .i64 t,.int .i64 0]) (by simp[results,Tryz.results70,go_sem]) rfl ?_;exact⟨B2.out.trans ((Below.drewN _ _).mono B2.out.size),fun h=>absurd HF.out h,fun _=>⟨v3,by rw[HR.out,HX.out],HB3.out.drewN _⟩⟩
  ·have he:=hno hok;subst he;have HF:Hid (iK l=22):=hid (by rw[HSUM.out,if_neg hok]);clear hyes hno hok HSUM;go_wp2_with fail;refine bodyPost_ret (v:=.tuple #[.int .u8 0,.slice none 0 0,.int .i64 0,.int .i64 22]) (by simp[results,Tryz.results70,go_sem]) rfl ?_;exact⟨B2.out,fun _=>by rw[HF.out];rfl,fun h=>absurd (HF.out.symm.trans h) (by decide)⟩
 ·have ht:iK l=cX l:=by simp[iK,hs]
  have HT:=hid ht;obtain⟨k,hk⟩:∃k,k=cX l:=⟨_,rfl⟩;have hk0:((k:Int) != 0)=true:=by simp;omega
  have hz:szN l=0:=by rw[szN,if_neg hs]
  have HZ:=hid hz;have HK:=hid hk;have HS:=hid hs;obtain⟨a,c,rfl,_⟩:=hB.shape;clear hs hz hk ht hB;go_enter Tryz.func70,Tryz.ntmps70;go_wp2_with fail;refine(vA _ l _ HB.out).mono ?_;rintro e w1 ⟨rfl,hb1⟩;rw[HZ.out,<- HK.out];have B1:=hid hb1;clear hb1;go_wp2_with fail;refine bodyPost_ret (v:=.tuple #[.int .u8 0,.slice none 0 0,.int .i64 0,.int .i64 k]) (by simp[results,Tryz.results70,go_sem]) rfl ?_;exact⟨B1.out,fun _=>by rw[HT.out,<- HK.out],fun h=>absurd (HT.out.symm.trans h) HS.out⟩

def gJ (l:List Nat):Prop:=iK l=0/\frN l+8=l.length
def xR (l:List Nat)(w:World):Ending->World->Prop:=fun E w'=>Below w.heap.size w w' /\
 (¬gJ l->E = .returned (.tuple #[.int .u8 0,.slice none 0 0,.bool false])) /\
 (gJ l -> ∃v',E = .returned (.tuple #[.int .u8 (l.getD 1 0:Nat),v',.bool true])/\Bytes w' v' (gH l))

theorem zV (v:Value)(l:List Nat)(w:World)(hB:Bytes w v l):Calls Tryz.prog 21 #[v] w (xR l w):=by
 have HB:=hid hB;obtain⟨a,c,rfl,_⟩:=hB.shape;clear hB;by_cases hs:iK l=0
 ·have HS:=hid hs;have hx:l.getD 1 0<256:=HB.out.dH 1;have HX:=hid hx;by_cases hn:frN l+8=l.length
  ·have hne:(((frN l+8:Nat):Int) != (l.length:Int))=false:=by rw[hn];simp
   have HW:Hid (gJ l):=hid ⟨hs,hn⟩;clear hs hn;generalize hnn:frN l+8=n at hne;have HN:=hid hnn;clear hnn;go_enter Tryz.func21,Tryz.ntmps21;go_wp2_with fail;refine(oZ _ l _ HB.out).mono ?_;rintro e w1 ⟨hb1,_,hy⟩;obtain⟨v1,rfl,hB1⟩:=hy HS.out;rw[HN.out];have B1:=hid hb1;have HB1:=hid hB1;have hl1:(ints (gH l)).length<=2097152:=by rw[aD];exact hB1.small
   clear hb1 hB1 hy;go_wp2_with fail;refine(rC _ _ _ HB1.out.rd hl1).mono ?_;rintro e w2 ⟨v2,rfl,hown,hb2⟩;go_wp2_with fail;refine bodyPost_ret (v:=.tuple #[.int .u8 (l.getD 1 0:Nat),v2,.bool true]) (by simp[results,Tryz.results21,go_sem]) rfl ?_;exact⟨B1.out.trans (hb2.mono B1.out.size),fun h=>absurd HW.out h,fun _=>⟨v2,rfl,Bytes.dJ hown HB1.out.lt HB1.out.small⟩⟩
  ·have hne:(((frN l+8:Nat):Int) != (l.length:Int))=true:=by simp;omega
   have HW:Hid (¬gJ l):=hid fun h=>hn h.2;clear hs hn;generalize hnn:frN l+8=n at hne;have HN:=hid hnn;clear hnn;go_enter Tryz.func21,Tryz.ntmps21;go_wp2_with fail;refine(oZ _ l _ HB.out).mono ?_;rintro e w1 ⟨hb1,_,hy⟩;obtain⟨v1,rfl,hB1⟩:=hy HS.out;rw[HN.out];have B1:=hid hb1;clear hb1 hB1 hy;go_wp2_with fail;refine bodyPost_ret (v:=.tuple #[.int .u8 0,.slice none 0 0,.bool false]) (by simp[results,Tryz.results21,go_sem]) rfl ?_;exact⟨B1.out,fun _=>rfl,fun h=>absurd h HW.out⟩
 ·have HW:Hid (¬gJ l):=hid fun h=>hs h.1;have HS:=hid hs;obtain⟨k,hk⟩:∃k,k=iK l:=⟨_,rfl⟩;have hk0:((k:Int) != 0)=true:=by simp;omega
  have HK:=hid hk;clear hs hk;go_enter Tryz.func21,Tryz.ntmps21;go_wp2_with fail;refine(oZ _ l _ HB.out).mono ?_;rintro e w1 ⟨hb1,hy,_⟩;have he:=hy HS.out;subst he;rw[<- HK.out];have B1:=hid hb1;clear hb1 hy;go_wp2_with fail;refine bodyPost_ret (v:=.tuple #[.int .u8 0,.slice none 0 0,.bool false]) (by simp[results,Tryz.results21,go_sem]) rfl ?_;exact⟨B1.out,fun _=>rfl,fun h=>absurd h HW.out⟩
