/- For scbytes_law_holds. -/
import Derived.Test.YtgeihgombjbkbaaGreatSyb11
set_option maxHeartbeats 16000000
namespace Go.Proofs.YtgeihgombjbkbaaGreat
open Go.Lib (hid)
open Go.RowKit Go.Maps Go.Proofs.Own
def rng (m:Nat):List Int:=(List.range m).map fun i:Nat=>(i:Int)
theorem dT (m:Nat):(rng m).length=m:=by simp[rng]
theorem aIR (m k:Nat)(h:k<(rng m).length):(rng m)[k]=(k:Int):=by simp[rng]
theorem oS (m:Nat):rng (m+1)=rng m ++ [(m:Int)]:=by simp[rng,List.range_succ]
theorem aH7:(Tryz.prog.info? 3).map (fun i=>(i.zero,i.size,i.bytes))=some (some (.int .i64 0),1,8):=by kernel_rfl
theorem fI:eE Tryz.prog 93 3 .i64 8:=⟨Tryz.underlying93,aH7⟩

theorem aMy (n:Int)(w:World)(h0:0<=n)(h7:n<7):Calls Tryz.prog 340 #[.int .i64 n] w fun e w'=>e = .returned (.bool true)/\w=w':=by
 go_enter Tryz.func340,Tryz.ntmps340
 go_wp2
 go_ret;exact⟨rfl,rfl⟩

def pw:Nat->Int
 | 0=>0
 | 1=>1
 | 2=>3
 | 3=>7
 | 4=>15
 | 5=>31
 | 6=>63
 | _=>127

theorem aON (sv:Value)(m:Nat)(w:World)(hr:Reads w .i64 sv (rng m))(hm:m<=7) :
  Calls Tryz.prog 256 #[sv] w fun e w'=>e = .returned (.int .u64 (pw m))/\w=w':=by
 obtain⟨a,c,rfl,hc⟩:=hr;rw[dT];have HC:Hid (∀j,j<m -> ∃b o,a=some ⟨b,o,none⟩/\w.cell? ⟨b,o+j,none⟩=some (.int .i64 j)):=hid fun j hj=>by
  obtain⟨b,o,h1,h2⟩:=hc j (by rw[dT];exact hj);exact⟨b,o,h1,by rw[h2,aIR]⟩
 clear hc;go_enter Tryz.func256,Tryz.ntmps256
 go_wp2
 go_loopw [2,7] (fun s i wr=>∃k:Nat,k<=m/\i = .int .i64 k/\s = .int .u64 (pw k)/\wr=w) (fun _ i _=>m-(intOf i).toNat)
 case atStart=>exact⟨0,Nat.zero_le _,rfl,rfl,rfl⟩
 case round =>
  obtain⟨k,hk,rfl,rfl,rfl⟩:=hrel;by_cases hlt:k<m
  ·obtain⟨b,o,rfl,hcell⟩:=HC.out k hlt;have hk7:k=0\/k=1\/k=2\/k=3\/k=4\/k=5\/k=6:=by omega
   rcases hk7 with rfl|rfl|rfl|rfl|rfl|rfl|rfl
   all_goals
    (try (have hz:((0:Nat):Int)=0:=rfl);(try simp only[hz,Nat.add_zero]at hcell ⊢))
    simp only[pw]
    go_wp2_with (go_at_call 340;refine(aMy _ _ (by decide) (by decide)).mono ?_;rintro e w' ⟨rfl,rfl⟩)
    go_roundw
    case rel=>exact⟨_,hlt,by go_num,rfl,trivial⟩
    case measure=>simp[intOf];omega
  ·obtain rfl:k=m:=by omega
   go_wp2
   go_ret;exact⟨rfl,rfl⟩

theorem mof (m:Nat)(w:World)(hm:m<=7) :
  Calls Tryz.prog 255 #[.int .u64 (pw m)] w fun e w'=>∃v,e = .returned v/\aX w' w.heap.size 3 .i64 v (rng m)/\Below w.heap.size w w':=by
 go_enter Tryz.func255,Tryz.ntmps255
 go_wp2
 go_loopw [2,4] (fun d i wr=>∃k:Nat,k<=7/\i = .int .i64 k/\aX wr w.heap.size 3 .i64 d (rng (min k m))/\Below w.heap.size w wr) (fun _ i _=>7-(intOf i).toNat)
 case atStart=>exact⟨0,by omega,rfl,by simpa [rng] using aX.nil _ _ _ _,Below.refl _ _⟩
 case round =>
  obtain⟨k,hk,rfl,hown,hbl⟩:=hrel;obtain⟨a',c',rfl⟩:=hown.shape;have HO:=hid hown;have HB:=hid hbl;have hsz:=hbl.size;have hln:(rng (min k m)).length<=7:=by rw[dT];omega
  clear hown hbl;by_cases hlt:k<7
  ·have hm8:m=0\/m=1\/m=2\/m=3\/m=4\/m=5\/m=6\/m=7:=by omega
   have hk7:k=0\/k=1\/k=2\/k=3\/k=4\/k=5\/k=6:=by omega
   have hi0:(0:Int)<=(k:Int):=by omega
   have hi7:(k:Int)<7:=by omega
   by_cases hkm:k<m
   ·have hb:(bits BinOp.and IntKind.u64 (pw m / 2 ^ k) 1==1)=true:=by
     rcases hm8 with rfl|rfl|rfl|rfl|rfl|rfl|rfl|rfl<;>rcases hk7 with rfl|rfl|rfl|rfl|rfl|rfl|rfl<;>first|omega|rfl|kernel_rfl
    have e1:min k m=k:=by omega
    have e2:min (k+1) m=k+1:=by omega
    have e3:(rng (min k m)).length=k:=by rw[dT];omega
    have HE:=hid (show rng (min (k+1) m)=rng (min k m) ++ [(k:Int)] by rw[e1,e2,oS]);have wk:(Lit.int .i64 (k:Int)).wf=true:=by
     rcases hk7 with rfl|rfl|rfl|rfl|rfl|rfl|rfl<;>rfl
    clear e1 e2 hm8 hk7 e3
    go_wp2_with (at_builtin;refine aG fI _ _ rfl w.heap.size _ _ _ _ rfl rfl (HO.out.alloc _) (Reads.one _ _ _ _) (by decide) (by simp;omega) (by simp;omega) rfl ?_;intro v' w2 hown2 hgr hat hnil hbel)
    go_roundw
    case rel=>exact⟨k+1,by omega,by go_num,by rw[HE.out];exact hown2,HB.out.trans (((Below.refl _ _).alloc hsz _).trans hbel)⟩
    case measure=>simp[intOf];omega
   ·have hb:(bits BinOp.and IntKind.u64 (pw m / 2 ^ k) 1==1)=false:=by
     rcases hm8 with rfl|rfl|rfl|rfl|rfl|rfl|rfl|rfl<;>rcases hk7 with rfl|rfl|rfl|rfl|rfl|rfl|rfl<;>first|omega|rfl|kernel_rfl
    have e1:min k m=m:=by omega
    have e2:min (k+1) m=m:=by omega
    have HE:=hid (show rng (min (k+1) m)=rng (min k m) by rw[e1,e2]);clear e1 e2 hm8 hk7;go_wp2_with fail
    go_roundw
    case rel=>exact⟨k+1,by omega,by go_num,by rw[HE.out];exact HO.out,HB.out⟩
    case measure=>simp[intOf];omega
  ·obtain rfl:k=7:=by omega
   have h7:min 7 m=m:=by omega
   go_wp2
   go_ret;have:=HO.out;rw[h7]at this;exact⟨_,rfl,by rw[h7];exact this,HB.out⟩
theorem aL0 (sa sb:Value)(l m:List Int)(w:World)(hr:Reads w .i64 sa l)(hs:Reads w .i64 sb m)(hl:l.length<=1000000)(hm:m.length<=1000000) :
  Calls Tryz.prog 339 #[sa,sb] w fun e w'=>e = .returned (.bool (decide (l=m)))/\Below w.heap.size w w':=by
 obtain⟨a,c,rfl,hc⟩:=hr;obtain⟨b,d,rfl,hd⟩:=hs;by_cases hll:l.length=m.length
 ·have hne:((l.length:Int) != (m.length:Int))=false:=by rw[hll];simp
  have HL:=hid hll;clear hll;go_enter Tryz.func339,Tryz.ntmps339
  go_wp2
  go_loopw [13] (fun i wr=>∃(k n:Nat),k<=l.length/\i = .int .i64 k/\l.take k=m.take k/\wr=w.drewN n) (fun i _=>l.length-(intOf i).toNat)
  case atStart=>exact⟨0,0,Nat.zero_le _,rfl,by simp,rfl⟩
  case round =>
   obtain⟨k,n,hk,rfl,ht,rfl⟩:=hrel;have HT:=hid ht;clear ht;by_cases hlt:k<l.length
   ·have hlm:k<m.length:=by have:=HL.out;omega
    obtain⟨b1,o1,rfl,h1⟩:=hc k hlt;obtain⟨b2,o2,rfl,h2⟩:=hd k hlm;have i0:(0:Int)<=(k:Int):=by omega
    have i1:(k:Int)<(l.length:Int):=by omega
    have i2:(k:Int)<(m.length:Int):=by omega
    by_cases he:l[k]=m[k]
    ·have hbe:(l[k] != m[k])=false:=by simp[he]
     have HE:=hid he;clear he
     go_wp2
     go_quiet (fail)
     go_wp2
     go_roundw
     case rel=>exact⟨k+1,_,by omega,by go_num,fM HT.out hlt hlm HE.out,rfl⟩
     case measure=>simp[intOf];omega
    ·have hbe:(l[k] != m[k])=true:=by simp[he]
     have HE:=hid he;clear he
     go_wp2
     go_quiet (fail)
     go_wp2
     go_ret;exact⟨lY (by rw[eq_comm,decide_eq_false_iff_not];intro e;subst e;exact HE.out rfl),iC (iC (Below.refl _ _) _) _⟩
   ·go_wp2
    go_ret;exact⟨lY (by rw[eq_comm,decide_eq_true_eq];have:=HT.out;rw[List.take_of_length_le (by omega),List.take_of_length_le (by have:=HL.out;omega)]at this;exact this),iC (Below.refl _ _) _⟩
 ·have hne:((l.length:Int) != (m.length:Int))=true:=by simp;omega
  have HL:=hid hll;clear hll;go_enter Tryz.func339,Tryz.ntmps339
  go_wp2
  go_ret;exact⟨lY (by rw[eq_comm,decide_eq_false_iff_not];intro e;exact HL.out (by rw[e])),Below.refl _ _⟩

theorem aMz (sa sb:Value)(l m:List Int)(w:World)(hr:Reads w .i64 sa l)(hs:Reads w .i64 sb m)(hl:l.length<=1000000)(hm:m.length<=1000000) :
  Calls Tryz.prog 254 #[sa,sb] w fun e w'=>e = .returned (.bool (decide (l=m)))/\Below w.heap.size w w':=by
 have HR:=hid hr;have HS:=hid hs;obtain⟨a,c,rfl⟩:=hr.shape;obtain⟨b,d,rfl⟩:=hs.shape;clear hr hs;go_enter Tryz.func254,Tryz.ntmps254
 go_wp2_with (go_at_call 339;refine(aL0 _ _ l m _ HR.out HS.out hl hm).mono ?_;rintro e w' ⟨rfl,hb⟩)
 go_ret;exact⟨rfl,hb⟩

theorem aLR (sv:Value)(m:Nat)(w:World)(hr:Reads w .i64 sv (rng m))(h1:1<=m)(h7:m<=7) :
  Calls Tryz.prog 186 #[sv] w fun e w'=>e = .returned (.bool true)/\Below w.heap.size w w':=by
 have HR:=hid hr;obtain⟨a,c,rfl⟩:=hr.shape;clear hr;have hlm:(rng m).length=m:=dT m;have hgt:(0:Int)<((rng m).length:Int):=by omega
 have hlm':(rng m).length<=1000000:=by omega
 have hdec:decide (rng m=rng m)=true:=decide_eq_true rfl;clear hlm;go_enter Tryz.func186,Tryz.ntmps186;go_wp2_with fail;refine(aON _ m _ HR.out h7).mono ?_;rintro e w1 ⟨rfl,rfl⟩;go_wp2_with fail;refine(mof m _ h7).mono ?_;rintro e w2 ⟨v,rfl,ho,hb⟩;obtain⟨a2,c2,rfl⟩:=ho.shape;have HO:=hid ho;have HB:=hid hb;clear ho hb;go_wp2_with fail;refine(aMz _ _ (rng m) (rng m) _ (HR.out.below HB.out) HO.out.reads hlm' hlm').mono ?_;rintro e w3 ⟨rfl,hb3⟩;go_wp2_with fail;go_ret;exact⟨rfl,HB.out.trans (hb3.mono HB.out.size)⟩

theorem aIQ (sv:Value)(m:Nat)(w:World)(hr:Reads w .i64 sv (rng m))(h1:1<=m)(h7:m<=7) :
  Calls Tryz.prog 259 #[sv] w fun e w'=>e = .returned (.bool true)/\Below w.heap.size w w':=by
 obtain⟨a,c,rfl,hc⟩:=hr;have HC:Hid (∀j,j<m -> ∃b o,a=some ⟨b,o,none⟩/\w.cell? ⟨b,o+j,none⟩=some (.int .i64 j)):=hid fun j hj=>by
  obtain⟨b,o,h1,h2⟩:=hc j (by rw[dT];exact hj);exact⟨b,o,h1,by rw[h2,aIR]⟩
 clear hc;rw[dT];have hg1:¬(m:Int)<1:=by omega
 have hg7:¬(7:Int)<(m:Int):=by omega
 go_enter Tryz.func259,Tryz.ntmps259
 go_wp2
 go_loopw [3] (fun i wr=>∃(k n:Nat),k<=m/\i = .int .i64 k/\wr=w.drewN n) (fun i _=>m-(intOf i).toNat)
 case atStart=>exact⟨0,0,Nat.zero_le _,rfl,rfl⟩
 case round =>
  obtain⟨k,n,hk,rfl,rfl⟩:=hrel;by_cases hlt:k<m
  ·obtain⟨b,o,rfl,hcell⟩:=HC.out k hlt;have hprev:0<k->w.cell? ⟨b,o+(k-1),none⟩=some (.int .i64 (k-1:Nat)):=fun h0=>by
    obtain⟨b',o',hb',hcell'⟩:=HC.out (k-1) (by omega);obtain⟨rfl,rfl⟩:b=b'/\o=o':=by simpa using hb'
    exact hcell'
   have hmi:(k:Int)<(m:Int):=by omega
   have hpi:(k:Int)-1<(m:Int):=by omega
   have hk7:k=0\/k=1\/k=2\/k=3\/k=4\/k=5\/k=6:=by omega
   rcases hk7 with rfl|rfl|rfl|rfl|rfl|rfl|rfl
   ·have hz:((0:Nat):Int)=0:=rfl;simp only[hz,Nat.add_zero]at hcell hmi ⊢;clear hprev hpi hz
    go_wp2
    go_quiet (fail)
    go_wp2
    go_roundw
    case rel=>exact⟨1,_,by omega,by go_num,rfl⟩
    case measure=>simp[intOf];omega
   all_goals
    have hp:=hprev (by decide);have hz:((0:Nat):Int)=0:=rfl;have hw0:IntKind.i64.wrap 0=0:=rfl;have hm0:(0:Int)<(m:Int):=by omega
    simp only[Nat.reduceSub,hz,Nat.add_zero]at hp;clear hprev hpi hz
    go_wp2
    go_quiet (fail)
    go_wp2
    go_roundw
    case rel=>exact⟨_,_,hlt,by go_num,rfl⟩
    case measure=>simp[intOf];omega
  ·obtain rfl:k=m:=by omega
   go_wp2
   go_ret;exact⟨rfl,iC (Below.refl _ _) _⟩

theorem aIT (sv:Value)(m:Nat)(w:World)(hr:Reads w .i64 sv (rng m))(h1:1<=m)(h7:m<=7) :
  Calls Tryz.prog 189 #[sv] w fun e w'=>e = .returned (.bool true)/\Below w.heap.size w w':=by
 have HR:=hid hr;obtain⟨a,c,rfl⟩:=hr.shape;clear hr;go_enter Tryz.func189,Tryz.ntmps189
 go_wp2_with (go_at_call 259;refine(aIQ _ m _ HR.out h1 h7).mono ?_;rintro e w' ⟨rfl,hb⟩)
 go_ret;exact⟨rfl,hb⟩
theorem aJg (S el bt ev rm:Int)(m:Nat)(w:World)(h1:1<=m)(h7:m<=7) :
  Calls Tryz.prog 91 #[.agg #[.int .i64 S,.int .i64 m,.int .i64 el,.int .i64 bt,.int .i64 ev,.int .i64 rm],.int .i64 0] w fun e w'=>∃v,e = .returned (.agg #[.int .i64 0,v,.int .i64 el,.int .i64 bt,.int .i64 ev])/\Reads w' .i64 v (rng m)/\Below w.heap.size w w':=by
 have hx0:¬(m:Int)<0:=by omega
 have hx1:(0:Int)<=(m:Int):=by omega
 have hx2:(0:Int)<(m:Int):=by omega
 have hx7:(m:Int)<=7:=by omega
 have hx8:¬(7:Int)<(m:Int):=by omega
 have hmax:max (m:Int) 0=m:=by omega
 have hmin:min (m:Int) 7=m:=by omega
 go_enter Tryz.func91,Tryz.ntmps91;go_wp2_with fail
 go_loopw [5,11] (fun d i wr=>∃k:Nat,k<=m/\i = .int .i64 k/\aX wr (w.heap.size+2) 3 .i64 d (rng k)/\Below (w.heap.size+2) ((w.alloc (.cells #[.int .i64 S,.int .i64 m,.int .i64 el,.int .i64 bt,.int .i64 ev,.int .i64 rm] 25)).alloc (.cells #[.int .i64 0,.slice none 0 0,.int .i64 0,.int .i64 0,.int .i64 0] 175)) wr) (fun _ i _=>m-(intOf i).toNat)
 case atStart=>exact⟨0,by omega,rfl,by simpa [rng] using aX.nil _ _ _ _,Below.refl _ _⟩
 case round =>
  obtain⟨k,hk,rfl,hown,hbl⟩:=hrel;obtain⟨a',c',rfl⟩:=hown.shape;have HO:=hid hown;have HB:=hid hbl;have hsz:=hbl.size;simp only[World.size_alloc]at hsz;have hln:(rng k).length<=7:=by rw[dT];omega
  have c1:wr.cell? ⟨w.heap.size,1,none⟩=some (.int .i64 m):=Below.at hbl (by go_cell) (by show w.heap.size<w.heap.size+2;omega);have c2:wr.cell? ⟨w.heap.size,2,none⟩=some (.int .i64 el):=Below.at hbl (by go_cell) (by show w.heap.size<w.heap.size+2;omega);have c3:wr.cell? ⟨w.heap.size,3,none⟩=some (.int .i64 bt):=Below.at hbl (by go_cell) (by show w.heap.size<w.heap.size+2;omega);have c4:wr.cell? ⟨w.heap.size,4,none⟩=some (.int .i64 ev):=Below.at hbl (by go_cell) (by show w.heap.size<w.heap.size+2;omega);have hbs:w.heap.size<wr.heap.size:=by omega
  have hbs1:w.heap.size+1<wr.heap.size:=by omega
  clear hown hbl;by_cases hlt:k<m
  ·have hi0:(0:Int)<=(k:Int):=by omega
   have hi7:(k:Int)<7:=by omega
   have him:(k:Int)<(m:Int):=by omega
   have wk:(Lit.int .i64 (k:Int)).wf=true:=by
    have hk7:k=0\/k=1\/k=2\/k=3\/k=4\/k=5\/k=6:=by omega
    rcases hk7 with rfl|rfl|rfl|rfl|rfl|rfl|rfl<;>rfl
   go_wp2_with (at_builtin;refine aG fI _ _ rfl (w.heap.size+2) _ _ _ _ rfl rfl (HO.out.alloc _) (Reads.one _ _ _ _) (by decide) (by simp;omega) (by simp;omega) rfl ?_;intro v' w2 hown2 hgr hat hnil hbel)
   go_roundw
   case rel=>exact⟨k+1,by omega,by go_num,by rw[oS];exact hown2,HB.out.trans (((Below.refl _ _).alloc hsz _).trans hbel)⟩
   case measure=>simp[intOf];omega
  ·obtain rfl:k=m:=by omega
   have r0:wr.cell? ⟨w.heap.size+1,0,none⟩=some (.int .i64 0):=Below.at HB.out (by go_cell) (by show w.heap.size+1<w.heap.size+2;omega);have r1:wr.cell? ⟨w.heap.size+1,1,none⟩=some (.slice none 0 0):=Below.at HB.out (by go_cell) (by show w.heap.size+1<w.heap.size+2;omega);have r2:wr.cell? ⟨w.heap.size+1,2,none⟩=some (.int .i64 0):=Below.at HB.out (by go_cell) (by show w.heap.size+1<w.heap.size+2;omega);have r3:wr.cell? ⟨w.heap.size+1,3,none⟩=some (.int .i64 0):=Below.at HB.out (by go_cell) (by show w.heap.size+1<w.heap.size+2;omega);have r4:wr.cell? ⟨w.heap.size+1,4,none⟩=some (.int .i64 0):=Below.at HB.out (by go_cell) (by show w.heap.size+1<w.heap.size+2;omega);have f (j:Nat):wr.frozen? ⟨w.heap.size+1,j,none⟩=false:=by rw[HB.out.frozen (by show w.heap.size+1<w.heap.size+2;omega)];simp[go_sem]
   have f0:=f 0;have f1:=f 1;have f2:=f 2;have f3:=f 3;have f4:=f 4;clear f;go_wp2_with fail;generalize hw5:World.setCell (World.setCell (World.setCell (World.setCell (World.setCell _ _ _) _ _) _ _) _ _) _ _=w5;have hk5:Kept wr w5 (fun k=>k=w.heap.size+1):=by rw[<- hw5];exact((((Kept.setCell _ ⟨w.heap.size+1,0,none⟩ _).trans (Kept.setCell _ ⟨w.heap.size+1,1,none⟩ _)).trans (Kept.setCell _ ⟨w.heap.size+1,2,none⟩ _)).trans (Kept.setCell _ ⟨w.heap.size+1,3,none⟩ _)).trans (Kept.setCell _ ⟨w.heap.size+1,4,none⟩ _)
   have s0:w5.cell? ⟨w.heap.size+1,0,none⟩=some (.int .i64 0):=by rw[<- hw5];rw[cso (by simp)];rw[cso (by simp)];rw[cso (by simp)];rw[cso (by simp)];exact css (u:=.int .i64 0) (by exact r0)
   have s1:w5.cell? ⟨w.heap.size+1,1,none⟩=some (.slice a' (rng k).length c'):=by rw[<- hw5];rw[cso (by simp)];rw[cso (by simp)];rw[cso (by simp)];exact css (u:=.slice none 0 0) (by rw[cso (by simp)];exact r1)
   have s2:w5.cell? ⟨w.heap.size+1,2,none⟩=some (.int .i64 el):=by rw[<- hw5];rw[cso (by simp)];rw[cso (by simp)];exact css (u:=.int .i64 0) (by rw[cso (by simp)];rw[cso (by simp)];exact r2)
   have s3:w5.cell? ⟨w.heap.size+1,3,none⟩=some (.int .i64 bt):=by rw[<- hw5];rw[cso (by simp)];exact css (u:=.int .i64 0) (by rw[cso (by simp)];rw[cso (by simp)];rw[cso (by simp)];exact r3)
   have s4:w5.cell? ⟨w.heap.size+1,4,none⟩=some (.int .i64 ev):=by rw[<- hw5];exact css (u:=.int .i64 0) (by rw[cso (by simp)];rw[cso (by simp)];rw[cso (by simp)];rw[cso (by simp)];exact r4)
   have hrd:=HO.out.reads.kept hk5 fun b hb e=>by have:=(HO.out.lt b hb).1;omega
   have hfin:Below w.heap.size w w5:=by
    have h1:Below w.heap.size w wr:=((((Below.refl _ _).alloc (Nat.le_refl _) _).alloc (by simp) _)).trans (HB.out.mono (by omega));exact h1.trans (hk5.below (by omega) fun k hk=>by omega)
   clear hw5 r0 r1 r2 r3 r4 f0 f1 f2 f3 f4;refine bodyPost_ret (v:=.agg #[.int .i64 0,.slice a' (rng k).length c',.int .i64 el,.int .i64 bt,.int .i64 ev]) ?_ rfl ⟨_,rfl,hrd,hfin⟩;simp[results,Tryz.results91,go_sem,s0,s1,s2,s3,s4]

theorem aKj (S el bt ev rm:Int)(m:Nat)(w:World)(h1:1<=m)(h7:m<=7) :
  Calls Tryz.prog 95 #[.agg #[.int .i64 S,.int .i64 m,.int .i64 el,.int .i64 bt,.int .i64 ev,.int .i64 rm],.int .i64 0] w fun e w'=>∃v,e = .returned (.agg #[.int .i64 0,v,.int .i64 el,.int .i64 bt,.int .i64 ev])/\Reads w' .i64 v (rng m)/\Below w.heap.size w w':=by
 have hx0:¬(m:Int)<0:=by omega
 have hx1:(0:Int)<=(m:Int):=by omega
 have hx2:(0:Int)<(m:Int):=by omega
 have hx7:(m:Int)<=7:=by omega
 have hx8:¬(7:Int)<(m:Int):=by omega
 have hmax:max (m:Int) 0=m:=by omega
 have hmin:min (m:Int) 7=m:=by omega
 go_enter Tryz.func95,Tryz.ntmps95;go_wp2_with fail
 go_loopw [5,6] (fun d i wr=>∃k:Nat,k<=m/\i = .int .i64 k/\aX wr (w.heap.size+2) 3 .i64 d (rng k)/\Below (w.heap.size+2) ((w.alloc (.cells #[.int .i64 S,.int .i64 m,.int .i64 el,.int .i64 bt,.int .i64 ev,.int .i64 rm] 32)).alloc (.cells #[.int .i64 0,.slice none 0 0,.int .i64 0,.int .i64 0,.int .i64 0] 181)) wr) (fun _ i _=>m-(intOf i).toNat)
 case atStart=>exact⟨0,by omega,rfl,by simpa [rng] using aX.nil _ _ _ _,Below.refl _ _⟩
 case round =>
  obtain⟨k,hk,rfl,hown,hbl⟩:=hrel;obtain⟨a',c',rfl⟩:=hown.shape;have HO:=hid hown;have HB:=hid hbl;have hsz:=hbl.size;simp only[World.size_alloc]at hsz;have hln:(rng k).length<=7:=by rw[dT];omega
  have c1:wr.cell? ⟨w.heap.size,1,none⟩=some (.int .i64 m):=Below.at hbl (by go_cell) (by show w.heap.size<w.heap.size+2;omega);have c2:wr.cell? ⟨w.heap.size,2,none⟩=some (.int .i64 el):=Below.at hbl (by go_cell) (by show w.heap.size<w.heap.size+2;omega);have c3:wr.cell? ⟨w.heap.size,3,none⟩=some (.int .i64 bt):=Below.at hbl (by go_cell) (by show w.heap.size<w.heap.size+2;omega);have c4:wr.cell? ⟨w.heap.size,4,none⟩=some (.int .i64 ev):=Below.at hbl (by go_cell) (by show w.heap.size<w.heap.size+2;omega);have hbs:w.heap.size<wr.heap.size:=by omega
  have hbs1:w.heap.size+1<wr.heap.size:=by omega
  clear hown hbl;by_cases hlt:k<m
  ·have hi0:(0:Int)<=(k:Int):=by omega
   have hi7:(k:Int)<7:=by omega
   have him:(k:Int)<(m:Int):=by omega
   have wk:(Lit.int .i64 (k:Int)).wf=true:=by
    have hk7:k=0\/k=1\/k=2\/k=3\/k=4\/k=5\/k=6:=by omega
    rcases hk7 with rfl|rfl|rfl|rfl|rfl|rfl|rfl<;>rfl
   go_wp2_with (at_builtin;refine aG fI _ _ rfl (w.heap.size+2) _ _ _ _ rfl rfl (HO.out.alloc _) (Reads.one _ _ _ _) (by decide) (by simp;omega) (by simp;omega) rfl ?_;intro v' w2 hown2 hgr hat hnil hbel)
   go_roundw
   case rel=>exact⟨k+1,by omega,by go_num,by rw[oS];exact hown2,HB.out.trans (((Below.refl _ _).alloc hsz _).trans hbel)⟩
   case measure=>simp[intOf];omega
  ·obtain rfl:k=m:=by omega
   have r0:wr.cell? ⟨w.heap.size+1,0,none⟩=some (.int .i64 0):=Below.at HB.out (by go_cell) (by show w.heap.size+1<w.heap.size+2;omega);have r1:wr.cell? ⟨w.heap.size+1,1,none⟩=some (.slice none 0 0):=Below.at HB.out (by go_cell) (by show w.heap.size+1<w.heap.size+2;omega);have r2:wr.cell? ⟨w.heap.size+1,2,none⟩=some (.int .i64 0):=Below.at HB.out (by go_cell) (by show w.heap.size+1<w.heap.size+2;omega);have r3:wr.cell? ⟨w.heap.size+1,3,none⟩=some (.int .i64 0):=Below.at HB.out (by go_cell) (by show w.heap.size+1<w.heap.size+2;omega);have r4:wr.cell? ⟨w.heap.size+1,4,none⟩=some (.int .i64 0):=Below.at HB.out (by go_cell) (by show w.heap.size+1<w.heap.size+2;omega);have f (j:Nat):wr.frozen? ⟨w.heap.size+1,j,none⟩=false:=by rw[HB.out.frozen (by show w.heap.size+1<w.heap.size+2;omega)];simp[go_sem]
   have f0:=f 0;have f1:=f 1;have f2:=f 2;have f3:=f 3;have f4:=f 4;clear f;go_wp2_with fail;generalize hw5:World.setCell (World.setCell (World.setCell (World.setCell (World.setCell _ _ _) _ _) _ _) _ _) _ _=w5;have hk5:Kept wr w5 (fun k=>k=w.heap.size+1):=by rw[<- hw5];exact((((Kept.setCell _ ⟨w.heap.size+1,0,none⟩ _).trans (Kept.setCell _ ⟨w.heap.size+1,1,none⟩ _)).trans (Kept.setCell _ ⟨w.heap.size+1,2,none⟩ _)).trans (Kept.setCell _ ⟨w.heap.size+1,3,none⟩ _)).trans (Kept.setCell _ ⟨w.heap.size+1,4,none⟩ _)
   have s0:w5.cell? ⟨w.heap.size+1,0,none⟩=some (.int .i64 0):=by rw[<- hw5];rw[cso (by simp)];rw[cso (by simp)];rw[cso (by simp)];rw[cso (by simp)];exact css (u:=.int .i64 0) (by exact r0)
   have s1:w5.cell? ⟨w.heap.size+1,1,none⟩=some (.slice a' (rng k).length c'):=by rw[<- hw5];rw[cso (by simp)];rw[cso (by simp)];rw[cso (by simp)];exact css (u:=.slice none 0 0) (by rw[cso (by simp)];exact r1)
   have s2:w5.cell? ⟨w.heap.size+1,2,none⟩=some (.int .i64 el):=by rw[<- hw5];rw[cso (by simp)];rw[cso (by simp)];exact css (u:=.int .i64 0) (by rw[cso (by simp)];rw[cso (by simp)];exact r2)
   have s3:w5.cell? ⟨w.heap.size+1,3,none⟩=some (.int .i64 bt):=by rw[<- hw5];rw[cso (by simp)];exact css (u:=.int .i64 0) (by rw[cso (by simp)];rw[cso (by simp)];rw[cso (by simp)];exact r3)
   have s4:w5.cell? ⟨w.heap.size+1,4,none⟩=some (.int .i64 ev):=by rw[<- hw5];exact css (u:=.int .i64 0) (by rw[cso (by simp)];rw[cso (by simp)];rw[cso (by simp)];rw[cso (by simp)];exact r4)
   have hrd:=HO.out.reads.kept hk5 fun b hb e=>by have:=(HO.out.lt b hb).1;omega
   have hfin:Below w.heap.size w w5:=by
    have h1:Below w.heap.size w wr:=((((Below.refl _ _).alloc (Nat.le_refl _) _).alloc (by simp) _)).trans (HB.out.mono (by omega));exact h1.trans (hk5.below (by omega) fun k hk=>by omega)
   clear hw5 r0 r1 r2 r3 r4 f0 f1 f2 f3 f4;refine bodyPost_ret (v:=.agg #[.int .i64 0,.slice a' (rng k).length c',.int .i64 el,.int .i64 bt,.int .i64 ev]) ?_ rfl ⟨_,rfl,hrd,hfin⟩;simp[results,Tryz.results95,go_sem,s0,s1,s2,s3,s4]
