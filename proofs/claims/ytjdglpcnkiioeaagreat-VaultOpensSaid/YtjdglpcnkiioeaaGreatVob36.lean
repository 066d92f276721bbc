/- For vltopens_law_holds. -/
import Derived.Test.YtjdglpcnkiioeaaGreatVob32
import Derived.Test.YtjdglpcnkiioeaaGreatVob28
import Derived.Test.YtjdglpcnkiioeaaGreatVob33
set_option maxHeartbeats 16000000
set_option maxRecDepth 100000
namespace Go.Proofs.YtjdglpcnkiioeaaGreat
open Go.RowKit Go.Maps Go.Proofs.Own Go.Shelf

structure cU where
 t:Int
 k:Int
 d:List Nat
def cU.ok (e:cU):Prop:=1<=e.t/\e.t<=1152921504606846976/\1<=e.k/\e.k<=3/\e.d.length<=4096
instance (e:cU):Decidable e.ok:=inferInstanceAs (Decidable (_/\_))
def M64:Nat:=18446744073709551615
def rU (i:Nat)(e:cU):List Nat:=dW [i,e.t.toNat,e.k.toNat]++(mZ e.d.length++e.d)
def jN (i:Nat)(e:cU):List Nat:=frP 2 (rU i e)
def iW (n:Nat):List Nat:=frP 1 (mZ n)
def linesW (i:Nat):List cU->List Nat
 | []=>[]
 | e::es=>jN i e++linesW (i+1) es
def hdV (l:List Nat):Nat:=bO H60 (aF l)
def hdE (l:List Nat):Nat:=gV (cI H60 (aF l)) (cF H60 (aF l))
def tH (l:List Nat):Prop:=cS l=0/\l.getD 1 0=1/\hdE l=0/\hdV l≠0
instance (l:List Nat):Decidable (tH l):=inferInstanceAs (Decidable (_/\_))
def tJ (l:List Nat):List Nat:=cI M64 (aF l)
def tK (l:List Nat):List Nat:=cI H60 (tJ l)
def zQ (l:List Nat):List Nat:=cI 3 (tK l)
def lnI (l:List Nat):Nat:=bO M64 (aF l)
def lnX (l:List Nat):cU:=⟨bO H60 (tJ l),bO 3 (tK l),dY 4096 (zQ l)⟩
def lnE (l:List Nat):Nat:=gV (iU 4096 (zQ l)) (((cF M64 (aF l) || cF H60 (tJ l)) || cF 3 (tK l)) || iT 4096 (zQ l))
def zP (i:Nat)(l:List Nat):Prop:=cS l=0/\l.getD 1 0=2/\lnE l=0/\lnI l=i/\(lnX l).ok
instance (i:Nat) (l:List Nat):Decidable (zP i l):=inferInstanceAs (Decidable (_/\_))
structure nI where
 f:Nat
 es:List cU
 g:Nat
def segF:Nat->List Nat->nI->nI
 | 0,_,s=>s
 | n+1,l,s =>
  if s.f=0 then (if tH l then segF n (mT l) ⟨hdV l,s.es,s.g+(aF l).length+8⟩ else s)
  else (if zP (s.f+s.es.length) l then segF n (mT l) ⟨s.f,s.es ++ [lnX l],s.g+(aF l).length+8⟩ else s)
def cZ (l:List Nat):nI:=segF l.length l ⟨0,[],0⟩
theorem jF {l:List Nat}{s:nI}(h0:s.f=0 -> ¬tH l)(h1:s.f≠0 -> ¬zP (s.f+s.es.length) l)(n:Nat):segF n l s=s:=by
 cases n with
 | zero=>rfl
 | succ n =>
  unfold segF;by_cases h:s.f=0
  ·rw[if_pos h,if_neg (h0 h)]
  ·rw[if_neg h,if_neg (h1 h)]
theorem aAN {l:List Nat}{s:nI}(h:cS l≠0)(n:Nat):segF n l s=s:=jF (fun _ g=>h g.1) (fun _ g=>h g.1) n
theorem tS {l:List Nat}{s:nI}(h0:s.f=0)(h:tH l)(n:Nat):segF (n+1) l s=segF n (mT l) ⟨hdV l,s.es,s.g+(aF l).length+8⟩:=by
 show (if s.f=0 then _ else _)=_;rw[if_pos h0,if_pos h]
theorem tT {l:List Nat}{s:nI}(h0:s.f≠0)(h:zP (s.f+s.es.length) l)(n:Nat):segF (n+1) l s=segF n (mT l) ⟨s.f,s.es ++ [lnX l],s.g+(aF l).length+8⟩:=by
 show (if s.f=0 then _ else _)=_;rw[if_neg h0,if_pos h]
def fF (f:Nat)(es:List cU):List Nat:=iW f++linesW f es
end Go.Proofs.YtjdglpcnkiioeaaGreat
namespace Go.Proofs.YtjdglpcnkiioeaaGreat
open Go.Lib (hid)
open Go.RowKit Go.Maps Go.Proofs.Own

theorem vP (e:cU):wW e.t e.k e.d.length=decide e.ok:=by
 rw[Bool.eq_iff_iff,decide_eq_true_iff];unfold wW cU.ok;simp only[Bool.and_eq_true,decide_eq_true_eq];constructor
 ·rintro⟨h1,h2,h3,h4,h5⟩;exact⟨h1,h2,h3,h4,by omega⟩
 ·rintro⟨h1,h2,h3,h4,h5⟩;exact⟨h1,h2,h3,h4,by omega⟩

theorem aFA (n:Nat)(w:World)(hn:(n:Int)<18446744073709551616) :
  Calls Tryz.prog 114 #[.int .u64 n] w fun e w'=>∃v',e = .returned v'/\cC w' w.heap.size 5 .u8 v' (ints (iW n))/\Below w.heap.size w w':=by
 have HT:Hid (∀x ∈ [n],(x:Int)<18446744073709551616):=hid (by
  intro x hx;obtain rfl:=List.mem_singleton.1 hx;exact hn)
 have HNW:Hid (dW [n]=mZ n):=hid (by simp[dW]);have HL:Hid ((mZ n).length<=9):=hid (jP hn);have HLT:Hid (∀c ∈ mZ n,c<256):=hid (rW hn);clear hn;go_enter Tryz.func114,Tryz.ntmps114;go_wp2_with fail;have W1:Hid (∀o:Obj,fZ ((w.alloc (.cells #[.slice none 0 0] 246)).alloc o) w.heap.size (.slice none 0 0) []):=hid fun o =>
  (fZ.new w).below ((Below.refl _ _).alloc (Nat.le_refl _) o)
 have X2:Hid (∀x:Int,Reads ((w.alloc (.cells #[.slice none 0 0] 246)).alloc (.cells #[.int .u64 x] 22)) .u64 (.slice (some ⟨w.heap.size+1,0,none⟩) 1 1) [x]):=hid fun x=>by
  have h:=Reads.one (w.alloc (.cells #[.slice none 0 0] 246)) .u64 x 22
  simpa using h
 refine(pJ w.heap.size _ _ [] [n] _ (W1.out _) (X2.out _) HT.out (by
  intro b hb;simp only[Value.ownBlock]at hb;obtain rfl:=Option.some.inj hb;exact⟨by omega,by simp[Value.ownBlock]⟩) (by simp)).mono ?_
 rintro e w2 ⟨rfl,v2,hw2,hg2⟩;have B2:Hid (Below w.heap.size w w2):=hid (by
  have h:=hg2.below (W1.out _);exact((Below.refl _ _).alloc (Nat.le_refl _) _).alloc (by simp) _ |>.trans h)
 have W2:Hid (fZ w2 w.heap.size v2 (mZ n)):=hid (by rw[<- HNW.out];simpa using hw2);clear hw2 hg2 W1 X2;generalize hL:mZ n=L at *
 go_wp2_with fail;refine(rH _ v2 L w2 W2.out (by have:=HL.out;omega) HLT.out).mono ?_;rintro e w5 ⟨v5,rfl,hB5,hb5⟩;have HB5:=hid hB5;have B5:Hid (Below w.heap.size w w5):=hid (B2.out.trans (hb5.mono B2.out.size));clear hB5 hb5;go_wp2_with fail;refine(aDg 1 v5 L w5 HB5.out (by decide) (by decide) (by have:=HL.out;omega)).mono ?_;rintro e w6 ⟨v6,rfl,hB6,hb6,ho6⟩;have HO6:Hid (cC w6 w.heap.size 5 .u8 v6 (ints (iW n))):=hid (by
  have h:=ho6.lower fun g hg=>Nat.le_trans B5.out.size (ho6.lt g hg).1;unfold iW;rw[hL];exact h)
 have B6:Hid (Below w.heap.size w w6):=hid (B5.out.trans (hb6.mono B5.out.size));clear hB6 hb6 ho6;go_wp2_with fail;go_ret;exact⟨v6,rfl,HO6.out,B6.out⟩

theorem aCm {i:Nat}{e:cU}(hi:(i:Int)<18446744073709551616)(h:e.ok):(dW [i,e.t.toNat,e.k.toNat]).length<=27/\(∀c ∈ dW [i,e.t.toNat,e.k.toNat],c<256)/\(mZ e.d.length).length<=9/\(∀c ∈ mZ e.d.length,c<256):=by
 obtain⟨h1,h2,h3,h4,h5⟩:=h;have ht:∀x ∈ [i,e.t.toNat,e.k.toNat],(x:Int)<18446744073709551616:=by
  intro x hx;simp only[List.mem_cons,List.not_mem_nil,or_false]at hx;rcases hx with rfl|rfl|rfl<;>omega
 exact⟨by have:=nA _ ht;simpa using this,xO _ ht,jP (by omega),rW (by omega)⟩

theorem aG9 (i:Int)(e:cU)(dv:Value)(w:World)(hB:Bytes w dv e.d)(h:¬e.ok) :
  Calls Tryz.prog 159 #[.int .u64 i,.agg #[.int .u64 e.t,.int .i64 e.k,dv]] w fun E w'=>E = .returned (.tuple #[.slice none 0 0,.int .i64 2])/\Below w.heap.size w w':=by
 have HS:Hid (wW e.t e.k e.d.length=false):=hid (by rw[vP];exact decide_eq_false h);have HB:=hid hB;obtain⟨t,k,d⟩:=e;obtain⟨a,c,rfl,_⟩:=hB.shape;clear hB h;go_enter Tryz.func159,Tryz.ntmps159;go_wp2_with fail;refine(qX t k _ d _ (HB.out.below ((Below.refl _ _).alloc (Nat.le_refl _) _))).mono ?_;rintro E w1 ⟨rfl,hb1⟩;have B1:Hid (Below w.heap.size w w1):=hid (((Below.refl _ _).alloc (Nat.le_refl _) _).trans (hb1.mono (by simp)));rw[HS.out];clear hb1;go_wp2_with fail
 go_ret2
 exact⟨rfl,B1.out⟩

theorem aFB (i:Nat)(e:cU)(dv:Value)(w:World)(hB:Bytes w dv e.d)(h:e.ok)(hi:(i:Int)<18446744073709551616) :
  Calls Tryz.prog 159 #[.int .u64 i,.agg #[.int .u64 e.t,.int .i64 e.k,dv]] w fun E w'=>∃v',E = .returned (.tuple #[v',.int .i64 0])/\Bytes w' v' (jN i e)/\Below w.heap.size w w':=by
 have HS:Hid (wW e.t e.k e.d.length=true):=hid (by rw[vP];exact decide_eq_true h);have HB:=hid hB;have HLB:=hid (aCm hi h);obtain⟨t,k,d⟩:=e;obtain⟨h1,h2,h3,h4,h5⟩:=h;simp only at h1 h2 h3 h4 h5 HLB HS HB hB ⊢;have HD5:=hid h5;have HTK:Hid (t=(t.toNat:Int)/\k=(k.toNat:Int)):=hid ⟨by omega,by omega⟩;have HT3:Hid (∀x ∈ [i,t.toNat,k.toNat],(x:Int)<18446744073709551616):=hid (by
  intro x hx;simp only[List.mem_cons,List.not_mem_nil,or_false]at hx;rcases hx with rfl|rfl|rfl<;>omega)
 have HDS:Hid ((convert 36 9 dv).run Tryz.prog w = .ok (.string (bX d)) w):=hid (hB.str Tryz.underlying36 Tryz.underlying5 Tryz.underlying9);have HK:IntKind.u64.wrap k=k:=by rw[wrap_u64];omega
 obtain⟨a,c,rfl,_⟩:=hB.shape;clear hB h5;go_enter Tryz.func159,Tryz.ntmps159;go_wp2_with fail;have BE:Hid (Below w.heap.size w (w.alloc (.cells #[.int .u64 t,.int .i64 k,.slice a d.length c] 38))):=hid ((Below.refl _ _).alloc (Nat.le_refl _) _);have CE:Hid ((w.alloc (.cells #[.int .u64 t,.int .i64 k,.slice a d.length c] 38)).cell? ⟨w.heap.size,0,none⟩=some (.int .u64 t)/\(w.alloc (.cells #[.int .u64 t,.int .i64 k,.slice a d.length c] 38)).cell? ⟨w.heap.size,1,none⟩=some (.int .i64 k)/\(w.alloc (.cells #[.int .u64 t,.int .i64 k,.slice a d.length c] 38)).cell? ⟨w.heap.size,2,none⟩=some (.slice a d.length c)):=hid ⟨by go_cell,by go_cell,by go_cell⟩;have LE:w.heap.size<(w.alloc (.cells #[.int .u64 t,.int .i64 k,.slice a d.length c] 38)).heap.size:=by simp
 generalize World.alloc w _=w1 at *
 have HB1:=hid (HB.out.below BE.out);refine(qX t k _ d w1 HB1.out).mono ?_;rintro E w2 ⟨rfl,hb2⟩;have B2:Hid (Below w.heap.size w w2):=hid (BE.out.trans (hb2.mono (Nat.le_of_lt LE)));have e0:=Below.at hb2 CE.out.1 LE;have e1:=Below.at hb2 CE.out.2.1 LE;have e2:=Below.at hb2 CE.out.2.2 LE;have LE2:=Nat.lt_of_lt_of_le LE hb2.size;have HB2:=hid (HB1.out.below hb2);rw[HS.out];clear hb2 CE;go_wp2_with fail;have W3:Hid (∀o:Obj,fZ ((w2.alloc (.cells #[.slice none 0 0] 246)).alloc o) w2.heap.size (.slice none 0 0) []):=hid fun o =>
  (fZ.new w2).below ((Below.refl _ _).alloc (Nat.le_refl _) o)
 have X3:Hid (Reads ((w2.alloc (.cells #[.slice none 0 0] 246)).alloc (.cells #[.int .u64 i,.int .u64 t,.int .u64 k] 22)) .u64 (.slice (some ⟨w2.heap.size+1,0,none⟩) 3 3) (ints [i,t.toNat,k.toNat])):=hid (by
  have h:=Reads.three (w2.alloc (.cells #[.slice none 0 0] 246)) .u64 i t k 22;have hi3:ints [i,t.toNat,k.toNat] = [(i:Int),t,k]:=by
   unfold ints;simp only[List.map_cons,List.map_nil];rw[<- HTK.out.1,<- HTK.out.2]
  rw[hi3]
  simpa using h)
 refine(pJ w2.heap.size _ _ [] [i,t.toNat,k.toNat] _ (W3.out _) X3.out HT3.out (by
  intro b hb;simp only[Value.ownBlock]at hb;obtain rfl:=Option.some.inj hb;exact⟨by omega,by simp[Value.ownBlock]⟩) (by simp)).mono ?_
 rintro E w3 ⟨rfl,v3,hw3,hg3⟩;have B23:Hid (Below w2.heap.size w2 w3):=hid (by
  have h:=hg3.below (W3.out _);exact((Below.refl _ _).alloc (Nat.le_refl _) _).alloc (by simp) _ |>.trans h)
 have HW3:Hid (fZ w3 w2.heap.size v3 (dW [i,t.toNat,k.toNat])):=hid (by simpa using hw3);have c2:=Below.at B23.out e2 LE2;have HB3:=hid (HB2.out.below B23.out);have hds:(convert 36 9 (.slice a d.length c)).run Tryz.prog w3 = .ok (.string (bX d)) w3:=HB3.out.str Tryz.underlying36 Tryz.underlying5 Tryz.underlying9;clear hw3 hg3 W3 X3 HDS HK e0 e1 e2;go_wp2_with fail;refine(aAZ w2.heap.size v3 (dW [i,t.toNat,k.toNat]) (bX d) w3 HW3.out (by rw[cH];have:=HLB.out.1;have:=HD5.out;omega)).mono ?_;rintro E w4 ⟨rfl,v4,hw4,hg4⟩;have HW4:Hid (fZ w4 w2.heap.size v4 (rU i ⟨t,k,d⟩)):=hid (by
  have h:=hw4;rw[cH,dO HB.out.lt]at h;exact h)
 have B24:Hid (Below w2.heap.size w2 w4):=hid (B23.out.trans (hg4.below HW3.out));have HL4:Hid ((rU i ⟨t,k,d⟩).length<=10000 /\ ∀c ∈ rU i ⟨t,k,d⟩,c<256):=hid (by
  obtain⟨q1,q2,q3,q4⟩:=HLB.out;have q5:=HD5.out;refine⟨by unfold rU;simp only[List.length_append];omega,fun c hc=>?_⟩;unfold rU at hc;rcases List.mem_append.1 hc with hc|hc
  ·exact q2 c hc
  ·rcases List.mem_append.1 hc with hc|hc
   ·exact q4 c hc
   ·exact HB.out.lt c hc)
 clear hw4 hg4 hds c2;have HLW:Hid (jN i ⟨t,k,d⟩=frP 2 (rU i ⟨t,k,d⟩)):=hid rfl;generalize rU i ⟨t,k,d⟩=R at *
 go_wp2_with fail;refine(rH _ v4 R w4 HW4.out (by have:=HL4.out.1;omega) HL4.out.2).mono ?_;rintro E w5 ⟨v5,rfl,hB5,hb5⟩;have HB5:=hid hB5;have B5:Hid (Below w.heap.size w w5):=hid (B2.out.trans ((B24.out.trans (hb5.mono B24.out.size)).mono B2.out.size));clear hB5 hb5;go_wp2_with fail;refine(aDf 2 v5 R w5 HB5.out (by decide) (by decide) (by have:=HL4.out.1;omega)).mono ?_;rintro E w6 ⟨v6,rfl,hB6,hb6,ho6⟩;have HB6:=hid hB6;have B6:Hid (Below w.heap.size w w6):=hid (B5.out.trans (hb6.mono B5.out.size));clear hB6 hb6 ho6;go_wp2_with fail
 go_ret2
 rw[HLW.out];exact⟨v6,rfl,HB6.out,B6.out⟩

theorem aIG (kd:Nat)(v:Value)(l:List Nat)(rb:Nat)(w:World)(hB:Bytes w v l)(hrb:l = []\/v.ownBlock=some rb)(hlt:rb<w.heap.size) :
  Calls Tryz.prog 75 #[.int .u8 kd,v] w fun e w'=>e = .returned (.int .u64 ((if kd=1/\gV (cI H60 l) (cF H60 l)=0 then bO H60 l else 0:Nat)))/\Below w.heap.size w w':=by
 have HB:=hid hB;have HRB:=hid hrb;have HLT:=hid hlt;obtain⟨a,c,rfl,_⟩:=hB.shape;obtain⟨q,hq⟩:∃q,gV (cI H60 l) (cF H60 l)=q:=⟨_,rfl⟩;rw[hq];have HQ:=hid hq;clear hB hrb hlt hq;by_cases h1:kd=1
 ·have b1:((kd:Int) != 1)=false:=by rw[h1];rfl
  by_cases h2:q=0
  ·rw[if_pos ⟨h1,h2⟩];have b2:((q:Int) != 0)=false:=by rw[h2];rfl
   clear h1 h2;go_enter Tryz.func75,Tryz.ntmps75;go_wp2_with fail;refine(kN _ _ _ HB.out HRB.out (Nat.ne_of_lt HLT.out)).mono ?_;rintro e w1 ⟨rfl,hr1,hb1⟩;have R1:=hid hr1;have B1:=hid hb1;clear hr1 hb1;go_wp2_with fail;refine(fK _ _ _ _ _ R1.out (by decide) (by decide)).mono ?_;rintro e w2 ⟨rfl,hr2,hk2⟩;have R2:Hid (bT w2 w.heap.size rb (cI H60 l) (cF H60 l)):=hid (by have h:=hr2;rw[Bool.false_or]at h;exact h);have B2:Hid (Below w.heap.size w w2):=hid (B1.out.trans (hk2.below B1.out.size fun k e=>by omega));obtain⟨n,hn⟩:∃n,bO (Int.toNat 1152921504606846976) l=n:=⟨_,rfl⟩;have HN:Hid (bO H60 l=n):=hid hn;rw[hn];clear hr2 hk2 hn;go_wp2_with fail;refine(lF _ _ _ _ R2.out).mono ?_;rintro e w3 ⟨rfl,rfl⟩;rw[HQ.out];go_wp2_with fail;go_ret;rw[HN.out];exact⟨rfl,B2.out⟩
  ·rw[if_neg fun h=>h2 h.2];have b2:((q:Int) != 0)=true:=by simp;omega
   clear h1 h2;go_enter Tryz.func75,Tryz.ntmps75;go_wp2_with fail;refine(kN _ _ _ HB.out HRB.out (Nat.ne_of_lt HLT.out)).mono ?_;rintro e w1 ⟨rfl,hr1,hb1⟩;have R1:=hid hr1;have B1:=hid hb1;clear hr1 hb1;go_wp2_with fail;refine(fK _ _ _ _ _ R1.out (by decide) (by decide)).mono ?_;rintro e w2 ⟨rfl,hr2,hk2⟩;have R2:Hid (bT w2 w.heap.size rb (cI H60 l) (cF H60 l)):=hid (by have h:=hr2;rw[Bool.false_or]at h;exact h);have B2:Hid (Below w.heap.size w w2):=hid (B1.out.trans (hk2.below B1.out.size fun k e=>by omega));generalize bO (Int.toNat 1152921504606846976) l=n at *
   clear hr2 hk2;go_wp2_with fail;refine(lF _ _ _ _ R2.out).mono ?_;rintro e w3 ⟨rfl,rfl⟩;rw[HQ.out];go_wp2_with fail;go_ret;exact⟨rfl,B2.out⟩
 ·rw[if_neg fun h=>h1 h.1];have b1:((kd:Int) != 1)=true:=by simp;omega
  clear h1;go_enter Tryz.func75,Tryz.ntmps75;go_wp2_with fail;refine(kN _ _ _ HB.out HRB.out (Nat.ne_of_lt HLT.out)).mono ?_;rintro e w1 ⟨rfl,hr1,hb1⟩;have R1:=hid hr1;have B1:=hid hb1;clear hr1 hb1;go_wp2_with fail;refine(fK _ _ _ _ _ R1.out (by decide) (by decide)).mono ?_;rintro e w2 ⟨rfl,hr2,hk2⟩;have B2:Hid (Below w.heap.size w w2):=hid (B1.out.trans (hk2.below B1.out.size fun k e=>by omega));generalize bO (Int.toNat 1152921504606846976) l=n at *
  clear hr2 hk2;go_wp2_with fail;go_ret;exact⟨rfl,B2.out⟩

def xG (l:List Nat):List Nat:=cI M64 l
def xH (l:List Nat):List Nat:=cI H60 (xG l)
def qF (l:List Nat):List Nat:=cI 3 (xH l)
def lbI (l:List Nat):Nat:=bO M64 l
def lbX (l:List Nat):cU:=⟨bO H60 (xG l),bO 3 (xH l),dY 4096 (qF l)⟩
def lbE (l:List Nat):Nat:=gV (iU 4096 (qF l)) (((cF M64 l || cF H60 (xG l)) || cF 3 (xH l)) || iT 4096 (qF l))
structure EC (W:World)(b:Nat)(t k:Int)(dv:Value):Prop where
 c0:W.cell? ⟨b,0,none⟩=some (.int .u64 t)
 c1:W.cell? ⟨b,1,none⟩=some (.int .i64 k)
 c2:W.cell? ⟨b,2,none⟩=some dv
 f0:W.frozen? ⟨b,0,none⟩=false
 f1:W.frozen? ⟨b,1,none⟩=false
 f2:W.frozen? ⟨b,2,none⟩=false
theorem EC.lt {W:World}{b:Nat}{t k:Int}{dv:Value}(h:EC W b t k dv):b<W.heap.size:=World.block_lt_of_cell? _ _ h.c0
theorem EC.cells {W:World}{b:Nat}{t k:Int}{dv:Value}(h:EC W b t k dv):W.cell? ⟨b,0,none⟩=some (.int .u64 t)/\W.cell? ⟨b,1,none⟩=some (.int .i64 k)/\W.cell? ⟨b,2,none⟩=some dv:=⟨h.c0,h.c1,h.c2⟩
theorem EC.kept {W W':World}{b:Nat}{t k:Int}{dv:Value}{S:Nat->Prop}(h:EC W b t k dv)(hk:Kept W W' S)(hs:¬S b):EC W' b t k dv :=
 ⟨hk.cell h.c0 hs,hk.cell h.c1 hs,hk.cell h.c2 hs,(hk.frozen (a:=⟨b,0,none⟩) h.lt hs).trans h.f0,(hk.frozen (a:=⟨b,1,none⟩) h.lt hs).trans h.f1,(hk.frozen (a:=⟨b,2,none⟩) h.lt hs).trans h.f2⟩
theorem EC.below {W W':World}{b:Nat}{t k:Int}{dv:Value}(h:EC W b t k dv)(hb:Below W.heap.size W W'):EC W' b t k dv :=
 h.kept (Kept.aL hb (S:=fun _=>False) fun k h1 h2=>by omega) id
theorem EC.set {W:World}{b:Nat}{t k:Int}{dv:Value}(h:EC W b t k dv)(t' k':Int):EC ((W.setCell ⟨b,0,none⟩ (.int .u64 t')).setCell ⟨b,1,none⟩ (.int .i64 k')) b t' k' dv:=by
 refine⟨?_,?_,?_,by rw[World.frozen?_setCell,World.frozen?_setCell];exact h.f0,by rw[World.frozen?_setCell,World.frozen?_setCell];exact h.f1,by rw[World.frozen?_setCell,World.frozen?_setCell];exact h.f2⟩
 ·rw[cso (by simp)];exact css h.c0
 ·exact css (by rw[cso (by simp)];exact h.c1)
 ·rw[cso (by simp),cso (by simp)];exact h.c2
theorem EC.put {W:World}{b:Nat}{t k:Int}{dv:Value}(h:EC W b t k dv)(dv':Value):EC (W.setCell ⟨b,2,none⟩ dv') b t k dv':=by
 refine⟨?_,?_,css h.c2,by rw[fsc];exact h.f0,by rw[fsc];exact h.f1,by rw[fsc];exact h.f2⟩
 ·rw[cso (by simp)];exact h.c0
 ·rw[cso (by simp)];exact h.c1
theorem EC.pF {W:World}{b:Nat}{t k:Int}{dv:Value}(h:EC W b t k dv):EC (((W.setCell ⟨b,0,none⟩ (.int .u64 t)).setCell ⟨b,1,none⟩ (.int .i64 k)).setCell ⟨b,2,none⟩ dv) b t k dv:=(h.set t k).put dv
theorem EC.oH (W:World)(b:Nat)(x y z:Value):Kept W (((W.setCell ⟨b,0,none⟩ x).setCell ⟨b,1,none⟩ y).setCell ⟨b,2,none⟩ z) (fun k=>k=b) :=
 ((Kept.setCell W ⟨b,0,none⟩ x).trans (Kept.setCell _ ⟨b,1,none⟩ y)).trans (Kept.setCell _ ⟨b,2,none⟩ z)

theorem aIH (kd ix:Nat)(v:Value)(l:List Nat)(rb:Nat)(w:World)(hB:Bytes w v l)(hrb:l = []\/v.ownBlock=some rb)(hlt:rb<w.heap.size) :
  Calls Tryz.prog 76 #[.int .u8 kd,v,.int .u64 ix] w fun e w'=>∃dv,e = .returned (.tuple #[.agg #[.int .u64 (lbX l).t,.int .i64 (lbX l).k,dv],.bool (decide (kd=2/\lbE l=0/\lbI l=ix/\(lbX l).ok))])/\Bytes w' dv (lbX l).d/\(∀b,dv.ownBlock=some b->w.heap.size<=b)/\Below w.heap.size w w':=by
 have HB:=hid hB;have HRB:=hid hrb;have HLT:=hid hlt;obtain⟨a,c,rfl,_⟩:=hB.shape;obtain⟨q,hq⟩:∃q,lbE l=q:=⟨_,rfl⟩;have HQ:Hid (gV (iU 4096 (qF l)) (((cF M64 l || cF H60 (xG l)) || cF 3 (xH l)) || iT 4096 (qF l))=q):=hid hq;have HQE:=hid hq;obtain⟨u,hu⟩:∃u,lbI l=u:=⟨_,rfl⟩;have HU:=hid hu;obtain⟨t,ht⟩:∃t:Nat,bO H60 (xG l)=t:=⟨_,rfl⟩;have HT:Hid ((lbX l).t=(t:Nat)):=hid (by unfold lbX;rw[ht]);have HTE:=hid ht;obtain⟨k,hk⟩:∃k:Nat,bO 3 (xH l)=k:=⟨_,rfl⟩;have HK:Hid ((lbX l).k=(k:Nat)):=hid (by unfold lbX;rw[hk]);have HKE:=hid hk;have hk3:(k:Int)<=3:=by have:=fU 3 (xH l);omega
 have hkw:IntKind.i64.wrap (k:Int)=(k:Int):=by simp only[IntKind.wrap_i64];omega
 have HGS:Hid (wW (t:Nat) (k:Nat) (dY 4096 (qF l)).length=decide (lbX l).ok):=hid (by rw[<- vP,HT.out,HK.out];rfl);obtain⟨OK,hOK⟩:∃b:Bool,decide (lbX l).ok=b:=⟨_,rfl⟩;have HOK:=hid hOK;rw[hOK]at HGS;clear hB hrb hlt hq hu ht hk hk3 hOK;go_enter Tryz.func76,Tryz.ntmps76;go_wp2_with fail;have E1:Hid (EC (w.alloc (.cells #[.int .u64 0,.int .i64 0,.slice none 0 0] 38)) w.heap.size 0 0 (.slice none 0 0)):=hid ⟨by go_cell,by go_cell,by go_cell,by simp,by simp,by simp⟩;have B1:Hid (Below w.heap.size w (w.alloc (.cells #[.int .u64 0,.int .i64 0,.slice none 0 0] 38))):=hid ((Below.refl _ _).alloc (Nat.le_refl _) _);have L1:w.heap.size<(w.alloc (.cells #[.int .u64 0,.int .i64 0,.slice none 0 0] 38)).heap.size:=by simp
 generalize World.alloc w _=w1 at *
 refine(kN _ _ w1 (HB.out.below B1.out) HRB.out (by have:=HLT.out;omega)).mono ?_;rintro e w2 ⟨rfl,hr2,hb2⟩;have R2:=hid hr2;have E2:=hid (E1.out.below hb2);have B2:Hid (Below w.heap.size w w2):=hid (B1.out.trans (hb2.mono B1.out.size));obtain⟨r,hr⟩:∃r,w1.heap.size=r:=⟨_,rfl⟩;have HR:Hid (w.heap.size<r):=hid (by omega);rw[hr]at R2 ⊢;clear hr2 hb2 hr E1 L1 HB HRB;have NR:Hid (¬w.heap.size=r):=hid (by have:=HR.out;omega);have NRB:Hid (¬rb=w.heap.size):=hid (by have:=HLT.out;omega);go_wp2_with fail;refine(fK r 18446744073709551615 _ _ w2 R2.out (by decide) (by decide)).mono ?_;rintro e w3 ⟨rfl,hr3,hk3⟩;have R3:Hid (bT w3 r rb (xG l) (cF M64 l)):=hid (by have h:=hr3;rw[Bool.false_or]at h;exact h);have E3:=hid (E2.out.kept hk3 NR.out);have B3:Hid (Below w.heap.size w w3):=hid (B2.out.trans (hk3.below B2.out.size fun b e=>by have:=HR.out;omega));have HU2:Hid (bO (Int.toNat 18446744073709551615) l=u):=hid HU.out;rw[HU2.out];clear hr3 hk3;go_wp2_with fail;refine(fK r 1152921504606846976 _ _ w3 R3.out (by decide) (by decide)).mono ?_;rintro e w4 ⟨rfl,hr4,hk4⟩;have R4:Hid (bT w4 r rb (xH l) (cF M64 l || cF H60 (xG l))):=hid hr4;have E4:=hid (E3.out.kept hk4 NR.out);have B4:Hid (Below w.heap.size w w4):=hid (B3.out.trans (hk4.below B3.out.size fun b e=>by have:=HR.out;omega));have HT2:Hid (bO (Int.toNat 1152921504606846976) (xG l)=t):=hid HTE.out;rw[HT2.out];clear hr4 hk4;go_wp2_with fail;refine(fK r 3 _ _ w4 R4.out (by decide) (by decide)).mono ?_;rintro e w5 ⟨rfl,hr5,hk5⟩;have R5:Hid (bT w5 r rb (qF l) ((cF M64 l || cF H60 (xG l)) || cF 3 (xH l))):=hid hr5;have E5:=hid (E4.out.kept hk5 NR.out);have B5:Hid (Below w.heap.size w w5):=hid (B4.out.trans (hk5.below B4.out.size fun b e=>by have:=HR.out;omega));have HK2:Hid (bO (Int.toNat 3) (xH l)=k):=hid HKE.out;rw[HK2.out];clear hr5 hk5;obtain⟨y0,y1,y2,g0,g1,g2⟩:=E5.out;go_wp2_with fail;have E6:Hid (EC ((w5.setCell ⟨w.heap.size,0,none⟩ (.int .u64 (t:Nat))).setCell ⟨w.heap.size,1,none⟩ (.int .i64 (k:Nat))) w.heap.size (t:Nat) (k:Nat) (.slice none 0 0)):=hid (E5.out.set _ _);have K6:Kept w5 ((w5.setCell ⟨w.heap.size,0,none⟩ (.int .u64 (t:Nat))).setCell ⟨w.heap.size,1,none⟩ (.int .i64 (k:Nat))) (fun b=>b=w.heap.size):=(Kept.setCell w5 ⟨w.heap.size,0,none⟩ _).trans (Kept.setCell _ ⟨w.heap.size,1,none⟩ _);clear y0 y1 y2 g0 g1 g2;generalize hw6:World.setCell (World.setCell w5 _ _) _ _=w6 at *
 have R6:Hid (bT w6 r rb (qF l) ((cF M64 l || cF H60 (xG l)) || cF 3 (xH l))):=hid (R5.out.kept K6 (fun e=>NR.out e.symm) NRB.out);have B6:Hid (Below w.heap.size w w6):=hid (B5.out.trans (K6.below B5.out.size fun b e=>by omega));have HTX:Hid (aP (bX (dY 4096 (qF l)))=dY 4096 (qF l)):=hid (dO fun c hc=>by obtain⟨v,_,hB,_⟩:=R6.out.ex;exact hB.lt c (qB c hc));clear hw6 K6;go_wp2_with fail;refine(aAJ r 4096 _ _ w6 R6.out (by decide)).mono ?_;rintro e w7 ⟨rfl,hr7,hk7⟩;have R7:Hid (bT w7 r rb (iU 4096 (qF l)) (((cF M64 l || cF H60 (xG l)) || cF 3 (xH l)) || iT 4096 (qF l))):=hid hr7;have E7:=hid (E6.out.kept hk7 NR.out);have B7:Hid (Below w.heap.size w w7):=hid (B6.out.trans (hk7.below B6.out.size fun b e=>by have:=HR.out;omega));clear hr7 hk7;obtain⟨dv,w8,hrun,hB8,hb8,ho8⟩:=mJ (P:=Tryz.prog) w7 9 36 5 (bX (dY 4096 (qF l))) Tryz.underlying9 Tryz.underlying36 Tryz.underlying5 (by rw[cH];have:=qA 4096 (qF l);omega);rw[HTX.out]at hB8;obtain⟨da,dn,dc,rfl⟩:∃a n c,dv = .slice a n c:=by obtain⟨a,c,e,_⟩:=hB8.shape;exact⟨a,_,c,e⟩
 have E8:=hid (E7.out.below hb8);have HB8:=hid hB8;have R8:=hid (R7.out.below hb8);have B8:Hid (Below w.heap.size w w8):=hid (B7.out.trans (hb8.mono B7.out.size));have HDO:Hid (∀b,(Value.slice da dn dc).ownBlock=some b->w.heap.size<=b):=hid fun b hb=>by rw[ho8]at hb;obtain rfl:=Option.some.inj hb;exact B7.out.size
 have HDN:Hid (∀b,(Value.slice da dn dc).ownBlock=some b->b≠w.heap.size):=hid fun b hb=>by rw[ho8]at hb;obtain rfl:=Option.some.inj hb;have:=E7.out.lt;omega
 clear hB8 hb8 ho8;obtain⟨y0,y1,y2,g0,g1,g2⟩:=E8.out;go_wp2_with fail;have E9:Hid (EC (w8.setCell ⟨w.heap.size,2,none⟩ (.slice da dn dc)) w.heap.size (t:Nat) (k:Nat) (.slice da dn dc)):=hid (E8.out.put _);have K9:Kept w8 (w8.setCell ⟨w.heap.size,2,none⟩ (.slice da dn dc)) (fun b=>b=w.heap.size):=Kept.setCell w8 ⟨w.heap.size,2,none⟩ _;clear y0 y1 y2 g0 g1 g2 hrun;generalize hw9:World.setCell w8 _ _=w9 at *
 have R9:=hid (R8.out.kept K9 (fun e=>NR.out e.symm) NRB.out);have B9:Hid (Below w.heap.size w w9):=hid (B8.out.trans (K9.below B8.out.size fun b e=>by omega));have HBD:Hid (Bytes w9 (.slice da dn dc) (lbX l).d):=hid (HB8.out.kept K9 fun b hb e=>HDN.out b hb e);have R9d:=hid (R9.out.below ((Below.refl w9.heap.size w9).drew));have HBd:Hid (Bytes w9.drew (.slice da dn dc) (dY 4096 (qF l))):=hid (HBD.out.drew);have XR:=hid E9.out.cells;clear hw9 K9 E2 E3 E4 E5 E6 E7 E8 R2 R3 R4 R5 R6 R7 R8 B1 B2 B3 B4 B5 B6 B7 B8 hkw;by_cases h2:kd=2
 ·have b2:((kd:Int)==2)=true:=by rw[h2];rfl
  have H2:=hid h2;clear h2;by_cases hq0:q=0
  ·have bq:((q:Int)==0)=true:=by rw[hq0];rfl
   have HQ0:=hid hq0;clear hq0;by_cases hix:u=ix
   ·have bi:((u:Int)==(ix:Int))=true:=by rw[hix];simp
    have HV:Hid (decide (kd=2/\lbE l=0/\lbI l=ix/\(lbX l).ok)=OK):=hid (by rw[<- HOK.out,decide_eq_decide];exact⟨fun h=>h.2.2.2,fun h=>⟨H2.out,by rw[HQE.out];exact HQ0.out,by rw[HU.out];exact hix,h⟩⟩);clear hix;go_wp2_with fail;refine aU [0,0,2,6,14,30,62,126,254,510,510,2046,4094,8190,16382,32766,65534,65535,262143] 262112 (fun w'=>w'.cell? ⟨w.heap.size,0,none⟩=some (.int .u64 (t:Nat))/\w'.cell? ⟨w.heap.size,1,none⟩=some (.int .i64 (k:Nat))/\w'.cell? ⟨w.heap.size,2,none⟩=some (.slice da dn dc)) (by kernel_rfl) ?_;refine aB [0,1,2,3,4] (by kernel_rfl) (L:=bm 19 31) (by kernel_rfl) (f':=14) rfl (fun _ _ _ _ h=>h) (fun w o h=>(((aR.cell _ _).and ((aR.cell _ _).and (aR.cell _ _))).alloc h o)) (.inr XR.out) ?_;simp only[sF,sL]
    iterate 5 (first|(refine aW _ (by rfl) (fun w' hs=>by obtain⟨y0,y1,y2⟩:=hs;go_simp;try with_reducible rfl) rfl ?_;simp only[Act.put,sA])|(refine aC _ (by rfl) (fun w'=>by go_simp;try with_reducible rfl) ?_;simp only[Act.put,sA])|(refine eS (by rfl) ?_;simp only[Act.put,sA]))
    refine aI ?_;refine aM 5 (by kernel_rfl) (L:=bm 19 63) (by kernel_rfl) ?_;simp only[sL];go_wp2_with fail;refine(lF _ _ _ _ R9d.out).mono ?_;rintro e u5 ⟨rfl,rfl⟩;rw[HQ.out];go_wp2_with fail;refine aH (fun _=>XR.out) ?_;refine aB [6,7,8,9,10,11,12,13,14] (by kernel_rfl) (L:=bm 19 32767) (by kernel_rfl) (f':=4) rfl (fun _ _ _ _ h=>h) (fun w o h=>(((aR.cell _ _).and ((aR.cell _ _).and (aR.cell _ _))).alloc h o)) (.inr (by first|exact XR.out|exact(E9.out.below B10.out).cells)) ?_;simp only[sF,sL]
    iterate 9 (first|(refine aW _ (by rfl) (fun w' hs=>by obtain⟨y0,y1,y2⟩:=hs;go_simp;try with_reducible rfl) rfl ?_;simp only[Act.put,sA])|(refine aC _ (by rfl) (fun w'=>by go_simp;try with_reducible rfl) ?_;simp only[Act.put,sA])|(refine eS (by rfl) ?_;simp only[Act.put,sA]))
    refine aI ?_;refine aM 15 (by kernel_rfl) (L:=bm 19 65535) (by kernel_rfl) ?_;simp only[sL];go_wp2_with fail;refine(qX (t:Nat) (k:Nat) _ (dY 4096 (qF l)) _ HBd.out).mono ?_;rintro e w10 ⟨rfl,hb10⟩;have B10:Hid (Below w9.heap.size w9 w10):=hid (((Below.refl w9.heap.size w9).drew).trans hb10);clear hb10;rw[HGS.out];go_wp2_with fail;refine aH (fun _=>(E9.out.below B10.out).cells) ?_;refine aB [16] (by kernel_rfl) (L:=bm 19 131071) (by kernel_rfl) (f':=2) rfl (fun _ _ _ _ h=>h) (fun w o h=>(((aR.cell _ _).and ((aR.cell _ _).and (aR.cell _ _))).alloc h o)) (.inr (by first|exact XR.out|exact(E9.out.below B10.out).cells)) ?_;simp only[sF,sL]
    iterate 1 (refine aC _ (by rfl) (fun w'=>by go_simp;try with_reducible rfl) ?_;simp only[Act.put,sA])
    refine aI ?_;refine aM 17 (by kernel_rfl) (L:=bm 19 262143) (by kernel_rfl) ?_;simp only[sL];have E10:=hid (E9.out.below B10.out);obtain⟨z0,z1,z2,g0,g1,g2⟩:=E10.out;go_wp2_with fail;generalize hw11:World.setCell (World.setCell (World.setCell _ _ _) _ _) _ _=w11;have E11:Hid (EC w11 w.heap.size (t:Nat) (k:Nat) (.slice da dn dc)):=hid (by subst hw11;exact E10.out.pF);have B11:Hid (Kept w9 w11 (fun b=>b=w.heap.size)):=hid (by subst hw11;exact(Kept.aL B10.out (fun k h1 h2=>by omega)).trans (EC.oH _ _ _ _ _));clear hw11 z0 z1 z2 g0 g1 g2;refine aH (fun _=>E11.out.cells) ?_;refine aB [18] (by kernel_rfl) (L:=bm 19 524287) (by kernel_rfl) (f':=0) rfl (fun _ _ _ _ h=>h) (fun w o h=>(((aR.cell _ _).and ((aR.cell _ _).and (aR.cell _ _))).alloc h o)) (.inl (by kernel_rfl)) ?_;simp only[sF,sL]
    iterate 1 (refine aC _ (by rfl) (fun w'=>by go_simp;try with_reducible rfl) ?_;simp only[Act.put,sA])
    refine aI ?_;refine bC (by kernel_rfl) ?_;go_wp2_with fail;obtain⟨r0,r1,r2,_,_,_⟩:=E11.out;refine bodyPost_ret (v:=.tuple #[.agg #[.int .u64 (t:Nat),.int .i64 (k:Nat),.slice da dn dc],.bool OK]) (by simp[results,Tryz.results76,go_sem,r0,r1,r2]) rfl ?_;have BF:Below w.heap.size w w11:=B9.out.trans (B11.out.below B9.out.size fun b e=>by omega);refine⟨.slice da dn dc,by rw[HV.out,HT.out,HK.out],?_,HDO.out,by first|exact BF|exact BF.drew⟩;have HBF:=HBD.out.kept B11.out fun b hb e=>HDN.out b hb e
    first|exact HBF|exact HBF.drew

   ·have bi:((u:Int)==(ix:Int))=false:=by simp;omega
    have HV:Hid (decide (kd=2/\lbE l=0/\lbI l=ix/\(lbX l).ok)=false):=hid (decide_eq_false fun h=>hix (by rw[<- HU.out];exact h.2.2.1));clear hix;go_wp2_with fail;refine aU [0,0,2,6,14,30,62,126,254,510,510,2046,4094,8190,16382,32766,65534,65535,262143] 262112 (fun w'=>w'.cell? ⟨w.heap.size,0,none⟩=some (.int .u64 (t:Nat))/\w'.cell? ⟨w.heap.size,1,none⟩=some (.int .i64 (k:Nat))/\w'.cell? ⟨w.heap.size,2,none⟩=some (.slice da dn dc)) (by kernel_rfl) ?_;refine aB [0,1,2,3,4] (by kernel_rfl) (L:=bm 19 31) (by kernel_rfl) (f':=14) rfl (fun _ _ _ _ h=>h) (fun w o h=>(((aR.cell _ _).and ((aR.cell _ _).and (aR.cell _ _))).alloc h o)) (.inr XR.out) ?_;simp only[sF,sL]
    iterate 5 (first|(refine aW _ (by rfl) (fun w' hs=>by obtain⟨y0,y1,y2⟩:=hs;go_simp;try with_reducible rfl) rfl ?_;simp only[Act.put,sA])|(refine aC _ (by rfl) (fun w'=>by go_simp;try with_reducible rfl) ?_;simp only[Act.put,sA])|(refine eS (by rfl) ?_;simp only[Act.put,sA]))
    refine aI ?_;refine aM 5 (by kernel_rfl) (L:=bm 19 63) (by kernel_rfl) ?_;simp only[sL];go_wp2_with fail;refine(lF _ _ _ _ R9d.out).mono ?_;rintro e u5 ⟨rfl,rfl⟩;rw[HQ.out];go_wp2_with fail;refine aH (fun _=>XR.out) ?_;refine aB [6,7,8,9,10,11,12,13,14] (by kernel_rfl) (L:=bm 19 32767) (by kernel_rfl) (f':=4) rfl (fun _ _ _ _ h=>h) (fun w o h=>(((aR.cell _ _).and ((aR.cell _ _).and (aR.cell _ _))).alloc h o)) (.inr (by first|exact XR.out|exact(E9.out.below B10.out).cells)) ?_;simp only[sF,sL]
    iterate 9 (first|(refine aW _ (by rfl) (fun w' hs=>by obtain⟨y0,y1,y2⟩:=hs;go_simp;try with_reducible rfl) rfl ?_;simp only[Act.put,sA])|(refine aC _ (by rfl) (fun w'=>by go_simp;try with_reducible rfl) ?_;simp only[Act.put,sA])|(refine eS (by rfl) ?_;simp only[Act.put,sA]))
    refine aI ?_;refine aM 15 (by kernel_rfl) (L:=bm 19 65535) (by kernel_rfl) ?_;simp only[sL];go_wp2_with fail;refine aH (fun _=>XR.out) ?_;refine aB [16] (by kernel_rfl) (L:=bm 19 131071) (by kernel_rfl) (f':=2) rfl (fun _ _ _ _ h=>h) (fun w o h=>(((aR.cell _ _).and ((aR.cell _ _).and (aR.cell _ _))).alloc h o)) (.inr (by first|exact XR.out|exact(E9.out.below B10.out).cells)) ?_;simp only[sF,sL]
    iterate 1 (refine aC _ (by rfl) (fun w'=>by go_simp;try with_reducible rfl) ?_;simp only[Act.put,sA])
    refine aI ?_;refine aM 17 (by kernel_rfl) (L:=bm 19 262143) (by kernel_rfl) ?_;simp only[sL];have E10:=E9;obtain⟨z0,z1,z2,g0,g1,g2⟩:=E10.out;go_wp2_with fail;generalize hw11:World.setCell (World.setCell (World.setCell _ _ _) _ _) _ _=w11;have E11:Hid (EC w11 w.heap.size (t:Nat) (k:Nat) (.slice da dn dc)):=hid (by subst hw11;exact E10.out.pF);have B11:Hid (Kept w9 w11 (fun b=>b=w.heap.size)):=hid (by subst hw11;exact EC.oH _ _ _ _ _);clear hw11 z0 z1 z2 g0 g1 g2;refine aH (fun _=>E11.out.cells) ?_;refine aB [18] (by kernel_rfl) (L:=bm 19 524287) (by kernel_rfl) (f':=0) rfl (fun _ _ _ _ h=>h) (fun w o h=>(((aR.cell _ _).and ((aR.cell _ _).and (aR.cell _ _))).alloc h o)) (.inl (by kernel_rfl)) ?_;simp only[sF,sL]
    iterate 1 (refine aC _ (by rfl) (fun w'=>by go_simp;try with_reducible rfl) ?_;simp only[Act.put,sA])
    refine aI ?_;refine bC (by kernel_rfl) ?_;go_wp2_with fail;obtain⟨r0,r1,r2,_,_,_⟩:=E11.out;refine bodyPost_ret (v:=.tuple #[.agg #[.int .u64 (t:Nat),.int .i64 (k:Nat),.slice da dn dc],.bool false]) (by simp[results,Tryz.results76,go_sem,r0,r1,r2]) rfl ?_;have BF:Below w.heap.size w w11:=B9.out.trans (B11.out.below B9.out.size fun b e=>by omega);refine⟨.slice da dn dc,by rw[HV.out,HT.out,HK.out],?_,HDO.out,by first|exact BF|exact BF.drew⟩;have HBF:=HBD.out.kept B11.out fun b hb e=>HDN.out b hb e
    first|exact HBF|exact HBF.drew

  ·have bq:((q:Int)==0)=false:=by simp;omega
   have HV:Hid (decide (kd=2/\lbE l=0/\lbI l=ix/\(lbX l).ok)=false):=hid (decide_eq_false fun h=>hq0 (by rw[<- HQE.out];exact h.2.1));clear hq0;go_wp2_with fail;refine aU [0,0,2,6,14,30,62,126,254,510,510,2046,4094,8190,16382,32766,65534,65535,262143] 262112 (fun w'=>w'.cell? ⟨w.heap.size,0,none⟩=some (.int .u64 (t:Nat))/\w'.cell? ⟨w.heap.size,1,none⟩=some (.int .i64 (k:Nat))/\w'.cell? ⟨w.heap.size,2,none⟩=some (.slice da dn dc)) (by kernel_rfl) ?_;refine aB [0,1,2,3,4] (by kernel_rfl) (L:=bm 19 31) (by kernel_rfl) (f':=14) rfl (fun _ _ _ _ h=>h) (fun w o h=>(((aR.cell _ _).and ((aR.cell _ _).and (aR.cell _ _))).alloc h o)) (.inr XR.out) ?_;simp only[sF,sL]
   iterate 5 (first|(refine aW _ (by rfl) (fun w' hs=>by obtain⟨y0,y1,y2⟩:=hs;go_simp;try with_reducible rfl) rfl ?_;simp only[Act.put,sA])|(refine aC _ (by rfl) (fun w'=>by go_simp;try with_reducible rfl) ?_;simp only[Act.put,sA])|(refine eS (by rfl) ?_;simp only[Act.put,sA]))
   refine aI ?_;refine aM 5 (by kernel_rfl) (L:=bm 19 63) (by kernel_rfl) ?_;simp only[sL];go_wp2_with fail;refine(lF _ _ _ _ R9d.out).mono ?_;rintro e u5 ⟨rfl,rfl⟩;rw[HQ.out];go_wp2_with fail;refine aH (fun _=>XR.out) ?_;refine aB [6,7,8,9,10,11,12,13,14] (by kernel_rfl) (L:=bm 19 32767) (by kernel_rfl) (f':=4) rfl (fun _ _ _ _ h=>h) (fun w o h=>(((aR.cell _ _).and ((aR.cell _ _).and (aR.cell _ _))).alloc h o)) (.inr (by first|exact XR.out|exact(E9.out.below B10.out).cells)) ?_;simp only[sF,sL]
   iterate 9 (first|(refine aW _ (by rfl) (fun w' hs=>by obtain⟨y0,y1,y2⟩:=hs;go_simp;try with_reducible rfl) rfl ?_;simp only[Act.put,sA])|(refine aC _ (by rfl) (fun w'=>by go_simp;try with_reducible rfl) ?_;simp only[Act.put,sA])|(refine eS (by rfl) ?_;simp only[Act.put,sA]))
   refine aI ?_;refine aM 15 (by kernel_rfl) (L:=bm 19 65535) (by kernel_rfl) ?_;simp only[sL];go_wp2_with fail;refine aH (fun _=>XR.out) ?_;refine aB [16] (by kernel_rfl) (L:=bm 19 131071) (by kernel_rfl) (f':=2) rfl (fun _ _ _ _ h=>h) (fun w o h=>(((aR.cell _ _).and ((aR.cell _ _).and (aR.cell _ _))).alloc h o)) (.inr (by first|exact XR.out|exact(E9.out.below B10.out).cells)) ?_;simp only[sF,sL]
   iterate 1 (refine aC _ (by rfl) (fun w'=>by go_simp;try with_reducible rfl) ?_;simp only[Act.put,sA])
   refine aI ?_;refine aM 17 (by kernel_rfl) (L:=bm 19 262143) (by kernel_rfl) ?_;simp only[sL];have E10:=E9;obtain⟨z0,z1,z2,g0,g1,g2⟩:=E10.out;go_wp2_with fail;generalize hw11:World.setCell (World.setCell (World.setCell _ _ _) _ _) _ _=w11;have E11:Hid (EC w11 w.heap.size (t:Nat) (k:Nat) (.slice da dn dc)):=hid (by subst hw11;exact E10.out.pF);have B11:Hid (Kept w9 w11 (fun b=>b=w.heap.size)):=hid (by subst hw11;exact EC.oH _ _ _ _ _);clear hw11 z0 z1 z2 g0 g1 g2;refine aH (fun _=>E11.out.cells) ?_;refine aB [18] (by kernel_rfl) (L:=bm 19 524287) (by kernel_rfl) (f':=0) rfl (fun _ _ _ _ h=>h) (fun w o h=>(((aR.cell _ _).and ((aR.cell _ _).and (aR.cell _ _))).alloc h o)) (.inl (by kernel_rfl)) ?_;simp only[sF,sL]
   iterate 1 (refine aC _ (by rfl) (fun w'=>by go_simp;try with_reducible rfl) ?_;simp only[Act.put,sA])
   refine aI ?_;refine bC (by kernel_rfl) ?_;go_wp2_with fail;obtain⟨r0,r1,r2,_,_,_⟩:=E11.out;refine bodyPost_ret (v:=.tuple #[.agg #[.int .u64 (t:Nat),.int .i64 (k:Nat),.slice da dn dc],.bool false]) (by simp[results,Tryz.results76,go_sem,r0,r1,r2]) rfl ?_;have BF:Below w.heap.size w w11:=B9.out.trans (B11.out.below B9.out.size fun b e=>by omega);refine⟨.slice da dn dc,by rw[HV.out,HT.out,HK.out],?_,HDO.out,by first|exact BF|exact BF.drew⟩;have HBF:=HBD.out.kept B11.out fun b hb e=>HDN.out b hb e
   first|exact HBF|exact HBF.drew

 ·have b2:((kd:Int)==2)=false:=by simp;omega
  have HV:Hid (decide (kd=2/\lbE l=0/\lbI l=ix/\(lbX l).ok)=false):=hid (decide_eq_false fun h=>h2 h.1);clear h2;go_wp2_with fail;refine aU [0,0,2,6,14,30,62,126,254,510,510,2046,4094,8190,16382,32766,65534,65535,262143] 262112 (fun w'=>w'.cell? ⟨w.heap.size,0,none⟩=some (.int .u64 (t:Nat))/\w'.cell? ⟨w.heap.size,1,none⟩=some (.int .i64 (k:Nat))/\w'.cell? ⟨w.heap.size,2,none⟩=some (.slice da dn dc)) (by kernel_rfl) ?_;refine aB [0,1,2,3,4] (by kernel_rfl) (L:=bm 19 31) (by kernel_rfl) (f':=14) rfl (fun _ _ _ _ h=>h) (fun w o h=>(((aR.cell _ _).and ((aR.cell _ _).and (aR.cell _ _))).alloc h o)) (.inr XR.out) ?_;simp only[sF,sL]
  iterate 5 (first|(refine aW _ (by rfl) (fun w' hs=>by obtain⟨y0,y1,y2⟩:=hs;go_simp;try with_reducible rfl) rfl ?_;simp only[Act.put,sA])|(refine aC _ (by rfl) (fun w'=>by go_simp;try with_reducible rfl) ?_;simp only[Act.put,sA])|(refine eS (by rfl) ?_;simp only[Act.put,sA]))
  refine aI ?_;refine aM 5 (by kernel_rfl) (L:=bm 19 63) (by kernel_rfl) ?_;simp only[sL];go_wp2_with fail;refine aH (fun _=>XR.out) ?_;refine aB [6,7,8,9,10,11,12,13,14] (by kernel_rfl) (L:=bm 19 32767) (by kernel_rfl) (f':=4) rfl (fun _ _ _ _ h=>h) (fun w o h=>(((aR.cell _ _).and ((aR.cell _ _).and (aR.cell _ _))).alloc h o)) (.inr (by first|exact XR.out|exact(E9.out.below B10.out).cells)) ?_;simp only[sF,sL]
  iterate 9 (first|(refine aW _ (by rfl) (fun w' hs=>by obtain⟨y0,y1,y2⟩:=hs;go_simp;try with_reducible rfl) rfl ?_;simp only[Act.put,sA])|(refine aC _ (by rfl) (fun w'=>by go_simp;try with_reducible rfl) ?_;simp only[Act.put,sA])|(refine eS (by rfl) ?_;simp only[Act.put,sA]))
  refine aI ?_;refine aM 15 (by kernel_rfl) (L:=bm 19 65535) (by kernel_rfl) ?_;simp only[sL];go_wp2_with fail;refine aH (fun _=>XR.out) ?_;refine aB [16] (by kernel_rfl) (L:=bm 19 131071) (by kernel_rfl) (f':=2) rfl (fun _ _ _ _ h=>h) (fun w o h=>(((aR.cell _ _).and ((aR.cell _ _).and (aR.cell _ _))).alloc h o)) (.inr (by first|exact XR.out|exact(E9.out.below B10.out).cells)) ?_;simp only[sF,sL]
  iterate 1 (refine aC _ (by rfl) (fun w'=>by go_simp;try with_reducible rfl) ?_;simp only[Act.put,sA])
  refine aI ?_;refine aM 17 (by kernel_rfl) (L:=bm 19 262143) (by kernel_rfl) ?_;simp only[sL];have E10:=E9;obtain⟨z0,z1,z2,g0,g1,g2⟩:=E10.out;go_wp2_with fail;generalize hw11:World.setCell (World.setCell (World.setCell _ _ _) _ _) _ _=w11;have E11:Hid (EC w11 w.heap.size (t:Nat) (k:Nat) (.slice da dn dc)):=hid (by subst hw11;exact E10.out.pF);have B11:Hid (Kept w9 w11 (fun b=>b=w.heap.size)):=hid (by subst hw11;exact EC.oH _ _ _ _ _);clear hw11 z0 z1 z2 g0 g1 g2;refine aH (fun _=>E11.out.cells) ?_;refine aB [18] (by kernel_rfl) (L:=bm 19 524287) (by kernel_rfl) (f':=0) rfl (fun _ _ _ _ h=>h) (fun w o h=>(((aR.cell _ _).and ((aR.cell _ _).and (aR.cell _ _))).alloc h o)) (.inl (by kernel_rfl)) ?_;simp only[sF,sL]
  iterate 1 (refine aC _ (by rfl) (fun w'=>by go_simp;try with_reducible rfl) ?_;simp only[Act.put,sA])
  refine aI ?_;refine bC (by kernel_rfl) ?_;go_wp2_with fail;obtain⟨r0,r1,r2,_,_,_⟩:=E11.out;refine bodyPost_ret (v:=.tuple #[.agg #[.int .u64 (t:Nat),.int .i64 (k:Nat),.slice da dn dc],.bool false]) (by simp[results,Tryz.results76,go_sem,r0,r1,r2]) rfl ?_;have BF:Below w.heap.size w w11:=B9.out.trans (B11.out.below B9.out.size fun b e=>by omega);refine⟨.slice da dn dc,by rw[HV.out,HT.out,HK.out],?_,HDO.out,by first|exact BF|exact BF.drew⟩;have HBF:=HBD.out.kept B11.out fun b hb e=>HDN.out b hb e
  first|exact HBF|exact HBF.drew
end Go.Proofs.YtjdglpcnkiioeaaGreat
namespace Go.Proofs.YtjdglpcnkiioeaaGreat
open Go.RowKit Go.Maps Go.Proofs.Own

theorem gQ {n:ByteArray}{g:aJ}{L:List aJ}(h:g.name=n):aE n (g::L)=some g:=by
 unfold aE;rw[List.find?_cons_of_pos (by simpa using h)]
theorem fT {n:ByteArray}{g:aJ}{L:List aJ}(h:¬g.name=n):aE n (g::L)=aE n L:=by
 unfold aE;rw[List.find?_cons_of_neg (by simpa using h)]
theorem uI {n:ByteArray}{f:aJ}(h:f.name=n):∀L,(∀g ∈ L,¬g.name=n)->aE n (insFile f L)=some f
 | [],_=>gQ h
 | g::r,hd=>by
  unfold insFile;split
  ·exact gQ h
  ·rw[fT (hd g List.mem_cons_self)];exact uI h r fun x hx=>hd x (List.mem_cons_of_mem _ hx)
theorem aAi {n:ByteArray}{L:List aJ}(h:∀g ∈ L,¬g.name=n):aE n L=none:=by
 unfold aE;rw[List.find?_eq_none];intro g hg
 simpa using h g hg
theorem uG {n m:ByteArray}(h:¬m=n):∀L,aE n (bH m L)=aE n L
 | []=>rfl
 | g::r=>by
  have ih:=uG h r;unfold bH at ih ⊢;by_cases hg:g.name=m
  ·rw[List.filter_cons_of_neg (by simp[hg]),ih,fT (by rw[hg];exact h)]
  ·rw[List.filter_cons_of_pos (by simp[hg])];by_cases hn:g.name=n
   ·rw[gQ hn,gQ hn]
   ·rw[fT hn,fT hn,ih]
theorem uJ (f:aJ)(L:List aJ):aE f.name (bL f L)=some f:=uI rfl _ fun _g hg=>(jE.1 hg).2
theorem bQ.apart {L:List aJ}(h:bQ L):L.Pairwise (fun a b=>¬b.name=a.name):=h.imp fun hl=>(mW hl).symm

def Calm (D:aA):Prop:=D.down=false/\D.armed = -1
theorem Calm.step {D:aA}(h:Calm D)(L:List aJ):Calm { bP D with files:=L }:=by
 unfold Calm bP;rw[if_neg (by rw[h.2];decide),if_neg (by rw[h.2];decide)];exact h
theorem aBd {D D':aA}{n:ByteArray}(h:aE n D'.files=aE n D.files):cW D' n=cW D n:=by unfold cW;rw[h]
theorem aIR:¬fH=dR:=by decide
theorem aAn {D:aA}(h:Calm D):(dM D fH).2=0/\Calm (dM D fH).1/\cW (dM D fH).1 dR=cW D dR:=by
 cases e:aE fH D.files with
 | none =>
  have h31:bI D fH=31:=by unfold bI;rw[if_neg (by rw[h.1];decide),if_pos e]
  have hr:removeD D fH=(D,31):=by unfold removeD;rw[e];simp only;rw[h31]
  unfold dM;rw[hr];exact⟨rfl,h,rfl⟩
 | some f =>
  have hr:removeD D fH=({ bP D with files:=bH fH D.files },0):=by
   unfold removeD;rw[e];simp only;rw[if_neg (by rw[h.1];decide),if_neg (by rw[h.2];decide)]
  unfold dM;rw[hr];exact⟨rfl,h.step _,aBd (uG aIR _)⟩
theorem pZ {D:aA}(h:Calm D){n:ByteArray}{f:aJ}(hf:aE n D.files=some f):(syncD D n).2=0/\Calm (syncD D n).1/\cW (syncD D n).1 n=⟨n,f.all,f.all.length⟩:=by
 obtain⟨hn,_⟩:=cK hf;subst hn;have hr:syncD D f.name=({ bP D with files:=bL { f with kept:=f.all.length } D.files },0):=by
  unfold syncD;rw[hf];simp only;rw[if_neg (by rw[h.1];decide),if_neg (by rw[h.2];decide)]
 rw[hr];exact⟨rfl,h.step _,eI (uJ { f with kept:=f.all.length } D.files)⟩
theorem aBY {D:aA}(h:Calm D){n:ByteArray}{f:aJ}(hf:aE n D.files=some f)(k:Nat)(hk:k<=f.all.length) :
  (cutD D n k).2=0/\Calm (cutD D n k).1/\aE n (cutD D n k).1.files=some ⟨n,f.all.take k,min f.kept k⟩:=by
 obtain⟨hn,_⟩:=cK hf;subst hn;have hr:cutD D f.name k=({ bP D with files:=bL ⟨f.name,f.all.take k,min f.kept k⟩ D.files },0):=by
  unfold cutD;rw[hf];simp only;rw[if_neg (by rw[h.1];decide),if_neg (by omega),if_neg (by rw[h.2];decide),Int.toNat_natCast]
 rw[hr];exact⟨rfl,h.step _,uJ ⟨f.name,f.all.take k,min f.kept k⟩ D.files⟩

end Go.Proofs.YtjdglpcnkiioeaaGreat
namespace Go.Proofs.YtjdglpcnkiioeaaGreat
open Go.RowKit Go.Maps Go.Proofs.Own Go.Shelf

structure WF where
 f:Nat
 m:Nat
 s:Nat
structure aQ where
 b:Nat
 es:List cU
 fs:List WF
 safe:Nat
def aQ.last (L:aQ):Nat:=L.b+L.es.length
def uN (n:Nat):Nat:=(((H59:Int)-n) % 18446744073709551616).toNat
def popW (D:aA)(L:aQ):aA × aQ × Nat :=
 match L.fs.getLast? with
 | none=>(D,L,0)
 | some f=>if (removeD D (aK f.f)).2≠0 then ((removeD D (aK f.f)).1,L,(removeD D (aK f.f)).2)
  else ((removeD D (aK f.f)).1,⟨L.b,L.es.take (L.es.length-f.m),L.fs.dropLast,min L.safe (L.es.length-f.m)⟩,0)
def resetF (base:Nat):Nat->aA->aQ->aA × aQ × Nat
 | 0,D,_=>(D,⟨base,[],[],0⟩,0)
 | n+1,D,L=>if L.fs = [] then (D,⟨base,[],[],0⟩,0) else if (popW D L).2.2≠0 then popW D L else resetF base n (popW D L).1 (popW D L).2.1
def bA (D:aA)(L:aQ)(base:Nat):aA × aQ × Nat:=if H59<=base then (D,L,2) else resetF base L.fs.length D L
def cB (D:aA)(L:aQ):aA × aQ × Nat :=
 if L.safe=L.es.length then (D,L,0) else match L.fs.getLast? with
  | none=>(D,L,0)
  | some f=>if (syncD D (aK f.f)).2≠0 then ((syncD D (aK f.f)).1,L,(syncD D (aK f.f)).2) else ((syncD D (aK f.f)).1,{ L with safe:=L.es.length },0)
def aGF (D:aA)(L:aQ)(f:WF)(ms:List cU):aA × aQ × Nat :=
 if (aV D (aK f.f) (linesW (L.last+1) ms)).2≠0 then ((aV D (aK f.f) (linesW (L.last+1) ms)).1,L,(aV D (aK f.f) (linesW (L.last+1) ms)).2)
 else ((aV D (aK f.f) (linesW (L.last+1) ms)).1,⟨L.b,L.es++ms,L.fs.dropLast ++ [⟨f.f,f.m+ms.length,f.s+(linesW (L.last+1) ms).length⟩],L.safe⟩,0)
def aBq (D:aA)(L:aQ)(ms:List cU):aA × aQ × Nat :=
 if (cB D L).2.2≠0 then cB D L
 else if (aV (cB D L).1 (aK (L.last+1)) (fF (L.last+1) ms)).2≠0 then ((aV (cB D L).1 (aK (L.last+1)) (fF (L.last+1) ms)).1,(cB D L).2.1,(aV (cB D L).1 (aK (L.last+1)) (fF (L.last+1) ms)).2)
 else ((aV (cB D L).1 (aK (L.last+1)) (fF (L.last+1) ms)).1,⟨L.b,L.es++ms,L.fs ++ [⟨L.last+1,ms.length,(fF (L.last+1) ms).length⟩],(cB D L).2.1.safe⟩,0)
def bY (D:aA)(L:aQ)(ms:List cU):aA × aQ × Nat :=
 if ¬(∀e ∈ ms,e.ok) then (D,L,2) else if uN L.last<ms.length then (D,L,10) else if ms = [] then (D,L,0)
 else match L.fs.getLast? with
  | none=>aBq D L ms
  | some f=>if f.s<1024 then aGF D L f ms else aBq D L ms
def dropF (upto:Nat):Nat->aA->aQ->aA × aQ × Nat
 | 0,D,L=>(D,L,0)
 | n+1,D,L=>match L.fs with
  | f::g::r=>if g.f<=upto+1 then
    (if (removeD D (aK f.f)).2 ≠ 0 then ((removeD D (aK f.f)).1, L, (removeD D (aK f.f)).2)
     else dropF upto n (removeD D (aK f.f)).1 ⟨L.b+f.m,L.es.drop f.m,g::r,L.safe-f.m⟩)
   else (D,L,0)
  | _=>(D,L,0)
def mS (D:aA)(L:aQ)(upto:Nat):aA × aQ × Nat:=if L.last<upto then (D,L,2) else dropF upto L.fs.length D L
def dE (L:aQ)(first:Nat)(b:List Nat)(last:Bool):Bool × aQ × Nat :=
 if (cZ b).f≠first/\last=true then (false,L,0)
 else if (cZ b).f≠first\/(last=false/\(cZ b).g≠b.length)\/(L.fs ≠ []/\first≠L.last+1) then (true,L,20)
 else (true,⟨if L.fs = [] then first-1 else L.b,L.es++(cZ b).es,L.fs ++ [⟨first,(cZ b).es.length,(cZ b).g⟩],L.safe⟩,0)
def loadW:List ByteArray->aA->aQ->aA × aQ × Nat
 | [],D,L=>(D,L,0)
 | n::r,D,L =>
  if bI D n≠0 then (D,L,bI D n)
  else if (dE L (bB (aP n)) (cW D n).all (decide (r = []))).1=false then
   (if (removeD D n).2 ≠ 0 then ((removeD D n).1, (dE L (bB (aP n)) (cW D n).all (decide (r = []))).2.1, (removeD D n).2)
    else loadW r (removeD D n).1 (dE L (bB (aP n)) (cW D n).all (decide (r = []))).2.1)
  else if (dE L (bB (aP n)) (cW D n).all (decide (r = []))).2.2≠0 then (D,(dE L (bB (aP n)) (cW D n).all (decide (r = []))).2.1,(dE L (bB (aP n)) (cW D n).all (decide (r = []))).2.2)
  else loadW r D (dE L (bB (aP n)) (cW D n).all (decide (r = []))).2.1
def bU (D:aA)(L:aQ):aA × Nat :=
 match L.fs.getLast? with
 | none=>(D,0)
 | some f =>
  if bI D (aK f.f)≠0 then (D,bI D (aK f.f))
  else if f.s<(cW D (aK f.f)).all.length then
   (if (cutD D (aK f.f) f.s).2≠0 then cutD D (aK f.f) f.s else syncD (cutD D (aK f.f) f.s).1 (aK f.f))
  else syncD D (aK f.f)
def isW (f:aJ):Bool:=decide (bB (aP f.name)≠0)
def jA (D:aA):List aJ:=D.files.filter isW
def dH (D:aA):List ByteArray:=(jA D).map (·.name)
def gE (D:aA)(L:aQ)(base:Nat):aA × Option aQ × Nat :=
 let r:=if L.fs = []\/L.last<base then bA D L base else (D,L,0)
 if r.2.2≠0 then (r.1,none,r.2.2) else if base<r.2.1.b then (r.1,none,20) else (r.1,some { r.2.1 with safe:=r.2.1.es.length },0)
def xP (D:aA)(L:aQ)(base:Nat):aA × Option aQ × Nat :=
 if (bU D L).2≠0 then ((bU D L).1,none,(bU D L).2) else gE (bU D L).1 L base
def dP (D:aA)(base:Nat):aA × Option aQ × Nat :=
 if D.down=true then (D,none,50) else if H59<=base then (D,none,2)
 else if (loadW (dH D) D ⟨0,[],[],0⟩).2.2≠0 then ((loadW (dH D) D ⟨0,[],[],0⟩).1,none,(loadW (dH D) D ⟨0,[],[],0⟩).2.2)
 else xP (loadW (dH D) D ⟨0,[],[],0⟩).1 (loadW (dH D) D ⟨0,[],[],0⟩).2.1 base
theorem wS (n:ByteArray)(L:List aJ):(bH n L).filter isW=bH n (L.filter isW):=by
 unfold bH;rw[List.filter_filter,List.filter_filter]
 congr 1
 funext g
 exact Bool.and_comm _ _
end Go.Proofs.YtjdglpcnkiioeaaGreat
namespace Go.Proofs.YtjdglpcnkiioeaaGreat
open Go.RowKit Go.Maps Go.Proofs.Own

abbrev bN:=List (cU × Value)
def eP (p:cU × Value):List Value:=[.int .u64 p.1.t,.int .i64 p.1.k,p.2]
def aN (l:bN):List (List Value):=l.map eP
def cU.fits (e:cU):Prop:=0<=e.t/\e.t<18446744073709551616 /\ -9223372036854775808<=e.k/\e.k<=9223372036854775807
theorem cU.ok.fits {e:cU}(h:e.ok):e.fits:=by
 obtain⟨h1,h2,h3,h4,_⟩:=h;exact⟨by omega,by omega,by omega,by omega⟩
def cA (w:World)(S:Nat->Prop)(l:bN):Prop:=∀p ∈ l,Bytes w p.2 p.1.d/\p.1.fits /\ ∀b,p.2.ownBlock=some b -> ¬S b
theorem cA.kept {w w':World}{S T:Nat->Prop}{l:bN}(h:cA w S l)(hk:Kept w w' T)(hs:∀k,T k->S k):cA w' S l:=fun p hp =>
 let ⟨h1,h2,h3⟩:=h p hp
 ⟨h1.kept hk fun b hb ht=>h3 b hb (hs b ht),h2,h3⟩
theorem cA.mono {w:World}{S T:Nat->Prop}{l:bN}(h:cA w S l)(hs:∀p ∈ l,∀b,p.2.ownBlock=some b->T b->S b):cA w T l:=fun p hp =>
 let ⟨h1,h2,h3⟩:=h p hp
 ⟨h1,h2,fun b hb ht=>h3 b hb (hs p hp b hb ht)⟩
theorem cA.app {w:World}{S:Nat->Prop}{l m:bN}(h:cA w S l)(g:cA w S m):cA w S (l++m):=fun p hp=>(List.mem_append.1 hp).elim (h p) (g p)
theorem cA.sub {w:World}{S:Nat->Prop}{l m:bN}(h:cA w S l)(hs:∀p ∈ m,p ∈ l):cA w S m:=fun p hp=>h p (hs p hp)
def jV (w:World)(v:Value)(l:bN):Prop:=bJ w 3 v (aN l)/\cA w (fun _=>False) l
theorem aO (l:bN):(aN l).length=l.length:=List.length_map ..
theorem gP (l:bN):∀r ∈ aN l,r.length=3:=fun r hr=>by
 obtain⟨p,_,rfl⟩:=List.mem_map.1 hr;rfl
theorem Bytes.lV {w:World}{v:Value}{l:List Nat}(h:Bytes w v l):v.oneCell'=true:=by
 obtain⟨a,c,rfl,_⟩:=h.shape;rfl
theorem cA.lV {w:World}{S:Nat->Prop}{l:bN}(h:cA w S l):∀r ∈ aN l,∀u ∈ r,u.oneCell'=true:=fun r hr u hu=>by
 obtain⟨p,hp,rfl⟩:=List.mem_map.1 hr;simp only[eP,List.mem_cons,List.not_mem_nil,or_false]at hu;rcases hu with rfl|rfl|rfl
 ·rfl
 ·rfl
 ·exact(h p hp).1.lV
theorem gF (l m:bN):aN (l++m)=aN l++aN m:=List.map_append
def NoB (w:World)(S:Nat->Prop):Prop:=∀k,S k -> ∀j x,w.cell? ⟨k,j,none⟩≠some (.int .u8 x)
theorem gB {w:World}{e:TypeId}{sz:Nat}{v:Value}{rs:List (List Value)}(h:cM w e sz v rs):NoB w (fun k=>v.ownBlock=some k):=by
 intro k hk j x hx;obtain⟨cur,fz,hg,h8⟩:=h.no8 hk;have hc:cur[j]? = some (.int .u8 x):=by simpa [World.cell?,hg] using hx
 exact h8 x (Array.mem_toList_iff.2 (Array.mem_of_getElem? hc))
theorem Bytes.cR {w w':World}{v:Value}{l:List Nat}{S:Nat->Prop}(h:Bytes w v l)(hk:Kept w w' S)(hn:NoB w S):Bytes w' v l:=by
 refine h.qY hk fun hne b hb hs=>?_;obtain⟨b',o,c,rfl,_,_,hc⟩:=h.eD (List.length_pos_iff.2 hne);obtain rfl:b'=b:=Option.some.inj hb;exact hn b' hs _ _ (hc 0 (List.length_pos_iff.2 hne))
theorem aG.cR {w w':World}{db mb tb:Nat}{D:aA}{S:Nat->Prop}(h:aG w db mb tb D)(hk:Kept w w' S)(hs:∀k,aZ db mb tb k -> ¬S k)(hn:NoB w S):aG w' db mb tb D :=
 h.kept hk hs fun vals f _ hf=>by
  obtain⟨a,c,e,hB,ho⟩:=hf;exact⟨a,c,e,hB.cR hk hn,ho⟩
theorem cA.cR {w w':World}{S T:Nat->Prop}{l:bN}(h:cA w S l)(hk:Kept w w' T)(hn:NoB w T):cA w' S l:=fun p hp =>
 let ⟨h1,h2,h3⟩:=h p hp
 ⟨h1.cR hk hn,h2,h3⟩
def cY (f:WF):List Value:=[.int .u64 f.f,.int .i64 f.m,.int .i64 f.s]
theorem aEr (l:List WF):∀r ∈ l.map cY,r.length=3:=fun r hr=>by
 obtain⟨p,_,rfl⟩:=List.mem_map.1 hr;rfl
def mE (lb db mb tb:Nat)(ev fv:Value):Nat->Prop:=fun k=>k=lb\/aZ db mb tb k\/ev.ownBlock=some k\/fv.ownBlock=some k
structure bF (w:World)(lb db mb tb:Nat)(ev fv:Value)(el:bN)(D:aA)(L:aQ):Prop where
 dZ:aG w db mb tb D
 c0:w.cell? ⟨lb,0,none⟩=some (.pointer (some ⟨db,0,none⟩))
 c1:w.cell? ⟨lb,1,none⟩=some (.int .u64 L.b)
 c2:w.cell? ⟨lb,2,none⟩=some ev
 c3:w.cell? ⟨lb,3,none⟩=some fv
 c4:w.cell? ⟨lb,4,none⟩=some (.int .i64 L.safe)
 fz:∀j,1<=j->j<=4->w.frozen? ⟨lb,j,none⟩=false
 n8:NoB w (fun k=>k=lb)
 es:el.map (·.1)=L.es
 er:cM w 38 3 ev (aN el)
 fr:cM w 188 3 fv (L.fs.map cY)
 dat:cA w (aZ db mb tb) el
 nl:¬aZ db mb tb lb
 ne:∀b,ev.ownBlock=some b->b≠lb /\ ¬aZ db mb tb b/\fv.ownBlock≠some b
 nf:∀b,fv.ownBlock=some b->b≠lb /\ ¬aZ db mb tb b
theorem bF.lt {w:World}{lb db mb tb:Nat}{ev fv:Value}{el:bN}{D:aA}{L:aQ}(h:bF w lb db mb tb ev fv el D L):lb<w.heap.size:=World.block_lt_of_cell? _ _ h.c0
theorem bF.zO {w:World}{lb db mb tb:Nat}{ev fv:Value}{el:bN}{D:aA}{L:aQ}(h:bF w lb db mb tb ev fv el D L):el.length=L.es.length:=by rw[<- h.es,List.length_map]
theorem bF.gA {w:World}{lb db mb tb:Nat}{ev fv:Value}{el:bN}{D:aA}{L:aQ}(h:bF w lb db mb tb ev fv el D L):∃a c,ev = .slice a L.es.length c/\L.es.length<=c:=by
 obtain⟨a,c,e⟩:=h.er.shape;rw[aO,h.zO]at e;exact⟨a,c,e⟩
theorem bF.rF {w:World}{lb db mb tb:Nat}{ev fv:Value}{el:bN}{D:aA}{L:aQ}(h:bF w lb db mb tb ev fv el D L):∃a c,fv = .slice a L.fs.length c/\L.fs.length<=c:=by
 obtain⟨a,c,e⟩:=h.fr.shape;rw[List.length_map]at e;exact⟨a,c,e⟩
theorem bF.below {w w':World}{lb db mb tb:Nat}{ev fv:Value}{el:bN}{D:aA}{L:aQ}(h:bF w lb db mb tb ev fv el D L)(hb:Below w.heap.size w w'):bF w' lb db mb tb ev fv el D L:=by
 have hl:=h.lt;exact⟨h.dZ.below hb,Below.at hb h.c0 hl,Below.at hb h.c1 hl,Below.at hb h.c2 hl,Below.at hb h.c3 hl,Below.at hb h.c4 hl,fun j h1 h2=>by rw[hb.frozen (p:=⟨lb,j,none⟩) hl];exact h.fz j h1 h2,(fun k hk j x hx=>by subst hk;exact h.n8 k rfl j x (by rw[<- hb.cell (p:=⟨k,j,none⟩) hl];exact hx)),h.es,h.er.below hb,h.fr.below hb,
  fun p hp=>let ⟨h1,h2,h3⟩:=h.dat p hp;⟨h1.below hb,h2,h3⟩,h.nl,h.ne,h.nf⟩
theorem bF.oQ {w w':World}{lb db mb tb:Nat}{ev fv:Value}{el:bN}{D D':aA}{L:aQ}(h:bF w lb db mb tb ev fv el D L)(hd:aG w' db mb tb D')(hk:Kept w w' (aZ db mb tb)):bF w' lb db mb tb ev fv el D' L:=by
 have hl:=h.lt;exact⟨hd,hk.cell h.c0 h.nl,hk.cell h.c1 h.nl,hk.cell h.c2 h.nl,hk.cell h.c3 h.nl,hk.cell h.c4 h.nl,fun j h1 h2=>(hk.frozen (a:=⟨lb,j,none⟩) hl h.nl).trans (h.fz j h1 h2),(fun k hk2 j x hx=>by subst hk2;exact h.n8 k rfl j x (by rw[<- World.cell?_of_block (a:=⟨k,j,none⟩) (hk.block k hl h.nl)];exact hx)),h.es,
  h.er.kept hk fun b hb=>(h.ne b hb).2.1,h.fr.kept hk fun b hb=>(h.nf b hb).2,h.dat.kept hk fun k hk=>hk,h.nl,h.ne,h.nf⟩
theorem bF.aBh {w:World}{lb db mb tb:Nat}{ev fv:Value}{el:bN}{D:aA}{L:aQ}(h:bF w lb db mb tb ev fv el D L){j:Nat}{u v:Value}(hc:w.cell? ⟨lb,j,none⟩=some u)(hv:∀x,v ≠ .int .u8 x) :
  aG (w.setCell ⟨lb,j,none⟩ v) db mb tb D/\Kept w (w.setCell ⟨lb,j,none⟩ v) (fun k=>k=lb)/\NoB (w.setCell ⟨lb,j,none⟩ v) (fun k=>k=lb)/\(∀i,1<=i->i<=4->(w.setCell ⟨lb,j,none⟩ v).frozen? ⟨lb,i,none⟩=false):=by
 have hk:Kept w (w.setCell ⟨lb,j,none⟩ v) (fun k=>k=lb):=Kept.setCell w ⟨lb,j,none⟩ v;refine⟨h.dZ.cR hk (fun k h1 h2=>?_) h.n8,hk,fun k hk2 i x hx=>?_,fun i h1 h2=>by rw[fsc];exact h.fz i h1 h2⟩
 ·subst h2;exact h.nl h1
 ·subst hk2;by_cases e:i=j
  ·subst e;rw[css hc]at hx;exact hv x (Option.some.inj hx)
  ·rw[World.cell?_setCell_other _ _ _ _ (by simp only[ne_eq,Addr.mk.injEq,true_and,and_true];omega)]at hx;exact h.n8 k rfl i x hx
theorem bF.eN {w:World}{lb db mb tb:Nat}{ev fv:Value}{el:bN}{D:aA}{L:aQ}(h:bF w lb db mb tb ev fv el D L)(n:Nat):bF (w.setCell ⟨lb,4,none⟩ (.int .i64 n)) lb db mb tb ev fv el D { L with safe:=n }:=by
 obtain⟨h1,h2,h3,h4⟩:=h.aBh h.c4 (v:=.int .i64 n) (fun x e=>by cases e);exact⟨h1,by rw[cso (by simp)];exact h.c0,by rw[cso (by simp)];exact h.c1,by rw[cso (by simp)];exact h.c2,by rw[cso (by simp)];exact h.c3,
  css h.c4,h4,h3,h.es,h.er.kept h2 fun b hb=>(h.ne b hb).1,h.fr.kept h2 fun b hb=>(h.nf b hb).1,h.dat.cR h2 h.n8,h.nl,h.ne,h.nf⟩
theorem bF.pE {w:World}{lb db mb tb:Nat}{ev fv:Value}{el:bN}{D:aA}{L:aQ}(h:bF w lb db mb tb ev fv el D L)(n:Nat):bF (w.setCell ⟨lb,1,none⟩ (.int .u64 n)) lb db mb tb ev fv el D { L with b:=n }:=by
 obtain⟨h1,h2,h3,h4⟩:=h.aBh h.c1 (v:=.int .u64 n) (fun x e=>by cases e);exact⟨h1,by rw[cso (by simp)];exact h.c0,css h.c1,by rw[cso (by simp)];exact h.c2,by rw[cso (by simp)];exact h.c3,
  by rw[cso (by simp)];exact h.c4,h4,h3,h.es,h.er.kept h2 fun b hb=>(h.ne b hb).1,h.fr.kept h2 fun b hb=>(h.nf b hb).1,h.dat.cR h2 h.n8,h.nl,h.ne,h.nf⟩
theorem mY {w:World}{e:TypeId}{sz:Nat}{v:Value}{rs:List (List Value)}(h:cM w e sz v rs):∀x,v ≠ .int .u8 x:=fun x hx=>by
 obtain⟨a,c,e,_⟩:=h.shape;rw[e]at hx;cases hx
theorem bF.iO {w:World}{lb db mb tb:Nat}{ev fv ev':Value}{el el':bN}{D:aA}{L:aQ}(h:bF w lb db mb tb ev fv el D L)(he:cM w 38 3 ev' (aN el'))(hd:cA w (aZ db mb tb) el')
  (hne:∀b,ev'.ownBlock=some b->b≠lb /\ ¬aZ db mb tb b/\fv.ownBlock≠some b):bF (w.setCell ⟨lb,2,none⟩ ev') lb db mb tb ev' fv el' D { L with es:=el'.map (·.1) }:=by
 obtain⟨h1,h2,h3,h4⟩:=h.aBh h.c2 (v:=ev') (mY he);exact⟨h1,by rw[cso (by simp)];exact h.c0,by rw[cso (by simp)];exact h.c1,css h.c2,by rw[cso (by simp)];exact h.c3,
  by rw[cso (by simp)];exact h.c4,h4,h3,rfl,he.kept h2 fun b hb=>(hne b hb).1,h.fr.kept h2 fun b hb=>(h.nf b hb).1,hd.cR h2 h.n8,h.nl,hne,h.nf⟩
theorem bF.pF {w:World}{lb db mb tb:Nat}{ev fv fv':Value}{el:bN}{D:aA}{L:aQ}(h:bF w lb db mb tb ev fv el D L){fs:List WF}(hf:cM w 188 3 fv' (fs.map cY))
  (hnf:∀b,fv'.ownBlock=some b->b≠lb /\ ¬aZ db mb tb b/\ev.ownBlock≠some b):bF (w.setCell ⟨lb,3,none⟩ fv') lb db mb tb ev fv' el D { L with fs:=fs }:=by
 obtain⟨h1,h2,h3,h4⟩:=h.aBh h.c3 (v:=fv') (mY hf);exact⟨h1,by rw[cso (by simp)];exact h.c0,by rw[cso (by simp)];exact h.c1,by rw[cso (by simp)];exact h.c2,css h.c3,
  by rw[cso (by simp)];exact h.c4,h4,h3,h.es,h.er.kept h2 fun b hb=>(h.ne b hb).1,hf.kept h2 fun b hb=>(hnf b hb).1,h.dat.cR h2 h.n8,h.nl,
  fun b hb=>⟨(h.ne b hb).1,(h.ne b hb).2.1,fun e=>(hnf b e).2.2 hb⟩,fun b hb=>⟨(hnf b hb).1,(hnf b hb).2.1⟩⟩
def gM (lb db mb tb:Nat)(ev fv:Value)(r:aA × aQ × Nat)(w:World):Ending->World->Prop:=fun E w' =>
 E = .returned (.int .i64 r.2.2) /\ ∃ev' fv' el',bF w' lb db mb tb ev' fv' el' r.1 r.2.1/\Kept w w' (mE lb db mb tb ev fv) /\
  (∀b,ev'.ownBlock=some b->ev.ownBlock=some b\/w.heap.size<=b)/\(∀b,fv'.ownBlock=some b->fv.ownBlock=some b\/w.heap.size<=b)

theorem bF.aDF {w w':World}{lb db mb tb:Nat}{ev fv ev':Value}{el el':bN}{D:aA}{L:aQ}(h:bF w lb db mb tb ev fv el D L)(hg:w.grownBy w' ev.ownBlock)
  (he:cM w' 38 3 ev' (aN el')) (hb:ev'.ownBlock=ev.ownBlock\/ev'.ownBlock=some w.heap.size) (hd:cA w' (aZ db mb tb) el') :
  bF (w'.setCell ⟨lb,2,none⟩ ev') lb db mb tb ev' fv el' D { L with es:=el'.map (·.1) }/\Kept w (w'.setCell ⟨lb,2,none⟩ ev') (mE lb db mb tb ev fv):=by
 have hk:Kept w w' (fun k=>ev.ownBlock=some k):=Kept.cJ hg;have hnl:¬ev.ownBlock=some lb:=fun e=>(h.ne lb e).1 rfl;have hno:∀k,aZ db mb tb k -> ¬ev.ownBlock=some k:=fun k h1 h2=>(h.ne k h2).2.1 h1;have hl:=h.lt;have c0:=hk.cell h.c0 hnl;have c1:=hk.cell h.c1 hnl;have c2:=hk.cell h.c2 hnl;have c3:=hk.cell h.c3 hnl;have c4:=hk.cell h.c4 hnl;have n8:NoB w' (fun k=>k=lb):=fun k hk2 j x hx=>by
  subst hk2;exact h.n8 k rfl j x (by rw[<- World.cell?_of_block (a:=⟨k,j,none⟩) (hk.block k hl hnl)];exact hx)
 have hsk:Kept w' (w'.setCell ⟨lb,2,none⟩ ev') (fun k=>k=lb):=Kept.setCell w' ⟨lb,2,none⟩ ev';have hdk:aG w' db mb tb D:=h.dZ.cR hk hno (gB h.er);have hne:∀b,ev'.ownBlock=some b->b≠lb /\ ¬aZ db mb tb b/\fv.ownBlock≠some b:=by
  intro b hb2;rcases hb with hb|hb
  ·rw[hb]at hb2;exact h.ne b hb2
  ·rw[hb]at hb2;obtain rfl:=Option.some.inj hb2;refine⟨fun e=>by omega,fun e=>?_,fun e=>?_⟩
   ·have:=h.dZ.lt3 _ e;omega
   ·have:=h.fr.lt _ e;omega
 have hfr:cM w' 188 3 fv (L.fs.map cY):=h.fr.kept hk fun b hb2 e=>(h.ne b e).2.2 hb2;refine⟨⟨hdk.cR hsk (fun k h1 h2=>by subst h2;exact h.nl h1) n8,by rw[cso (by simp)];exact c0,by rw[cso (by simp)];exact c1,css c2,
  by rw[cso (by simp)];exact c3,by rw[cso (by simp)];exact c4,fun j h1 h2=>by rw[World.frozen?_setCell,hk.frozen (a:=⟨lb,j,none⟩) hl hnl];exact h.fz j h1 h2,?_,rfl,
  he.kept hsk fun b hb2=>(hne b hb2).1,hfr.kept hsk fun b hb2=>(h.nf b hb2).1,hd.cR hsk n8,h.nl,hne,h.nf⟩,?_⟩
 ·intro k hk2 j x hx;subst hk2;by_cases e:j=2
  ·subst e;rw[css c2]at hx;exact mY he x (Option.some.inj hx)
  ·rw[World.cell?_setCell_other _ _ _ _ (by simp only[ne_eq,Addr.mk.injEq,true_and,and_true];omega)]at hx;exact n8 k rfl j x hx
 ·exact hk.andThen hsk fun k _ h2=>h2.elim (fun e=>.inr (.inr (.inl e))) fun e=>.inl e
theorem bF.aDG {w w':World}{lb db mb tb:Nat}{ev fv fv':Value}{el:bN}{D:aA}{L:aQ}(h:bF w lb db mb tb ev fv el D L)(hg:w.grownBy w' fv.ownBlock){fs:List WF}
  (hf:cM w' 188 3 fv' (fs.map cY)) (hb:fv'.ownBlock=fv.ownBlock\/fv'.ownBlock=some w.heap.size) :
  bF (w'.setCell ⟨lb,3,none⟩ fv') lb db mb tb ev fv' el D { L with fs:=fs }/\Kept w (w'.setCell ⟨lb,3,none⟩ fv') (mE lb db mb tb ev fv):=by
 have hk:Kept w w' (fun k=>fv.ownBlock=some k):=Kept.cJ hg;have hnl:¬fv.ownBlock=some lb:=fun e=>(h.nf lb e).1 rfl;have hno:∀k,aZ db mb tb k -> ¬fv.ownBlock=some k:=fun k h1 h2=>(h.nf k h2).2 h1;have hl:=h.lt;have c0:=hk.cell h.c0 hnl;have c1:=hk.cell h.c1 hnl;have c2:=hk.cell h.c2 hnl;have c3:=hk.cell h.c3 hnl;have c4:=hk.cell h.c4 hnl;have n8:NoB w' (fun k=>k=lb):=fun k hk2 j x hx=>by
  subst hk2;exact h.n8 k rfl j x (by rw[<- World.cell?_of_block (a:=⟨k,j,none⟩) (hk.block k hl hnl)];exact hx)
 have hsk:Kept w' (w'.setCell ⟨lb,3,none⟩ fv') (fun k=>k=lb):=Kept.setCell w' ⟨lb,3,none⟩ fv';have hdk:aG w' db mb tb D:=h.dZ.cR hk hno (gB h.fr);have hnf:∀b,fv'.ownBlock=some b->b≠lb /\ ¬aZ db mb tb b/\ev.ownBlock≠some b:=by
  intro b hb2;rcases hb with hb|hb
  ·rw[hb]at hb2;exact⟨(h.nf b hb2).1,(h.nf b hb2).2,fun e=>(h.ne b e).2.2 hb2⟩
  ·rw[hb]at hb2;obtain rfl:=Option.some.inj hb2;refine⟨fun e=>by omega,fun e=>?_,fun e=>?_⟩
   ·have:=h.dZ.lt3 _ e;omega
   ·have:=h.er.lt _ e;omega
 have her:cM w' 38 3 ev (aN el):=h.er.kept hk fun b hb2 e=>(h.ne b hb2).2.2 e;refine⟨⟨hdk.cR hsk (fun k h1 h2=>by subst h2;exact h.nl h1) n8,by rw[cso (by simp)];exact c0,by rw[cso (by simp)];exact c1,by rw[cso (by simp)];exact c2,
  css c3,by rw[cso (by simp)];exact c4,fun j h1 h2=>by rw[World.frozen?_setCell,hk.frozen (a:=⟨lb,j,none⟩) hl hnl];exact h.fz j h1 h2,?_,h.es,
  her.kept hsk fun b hb2=>(h.ne b hb2).1,hf.kept hsk fun b hb2=>(hnf b hb2).1,(h.dat.cR hk (gB h.fr)).cR hsk n8,h.nl,
  fun b hb2=>⟨(h.ne b hb2).1,(h.ne b hb2).2.1,fun e=>(hnf b e).2.2 hb2⟩,fun b hb2=>⟨(hnf b hb2).1,(hnf b hb2).2.1⟩⟩,?_⟩
 ·intro k hk2 j x hx;subst hk2;by_cases e:j=3
  ·subst e;rw[css c3]at hx;exact mY hf x (Option.some.inj hx)
  ·rw[World.cell?_setCell_other _ _ _ _ (by simp only[ne_eq,Addr.mk.injEq,true_and,and_true];omega)]at hx;exact n8 k rfl j x hx
 ·exact hk.andThen hsk fun k _ h2=>h2.elim (fun e=>.inr (.inr (.inr e))) fun e=>.inl e
theorem bF.aE0 {w:World}{lb db mb tb g n c:Nat}{ev:Value}{el:bN}{D:aA}{L:aQ}(h:bF w lb db mb tb ev (.slice (some ⟨g,0,none⟩) n c) el D L){k i:Nat}(hk:k<L.fs.length)(hi:i<3){x:Int}{q:IntKind}(hq:q ≠ .u8){fs:List WF}
  (hfs:fs.map cY=(L.fs.map cY).set k (((L.fs.map cY)[k]'(by rw[List.length_map];exact hk)).set i (.int q x))) :
  bF (w.setCell ⟨g,k*3+i,none⟩ (.int q x)) lb db mb tb ev (.slice (some ⟨g,0,none⟩) n c) el D { L with fs:=fs }:=by
 have hu:∀y,(Value.int q x) ≠ .int .u8 y:=fun y e=>by
  cases e;exact hq rfl
 have hs:=h.fr.stored (k:=k) (i:=i) (by rw[List.length_map];exact hk) hi hu;rw[<- hfs]at hs;have hk2:Kept w (w.setCell ⟨g,k*3+i,none⟩ (.int q x)) (fun b=>(Value.slice (some ⟨g,0,none⟩) n c).ownBlock=some b):=(Kept.setCell w ⟨g,k*3+i,none⟩ (.int q x)).mono fun b _ e=>by rw[e];rfl
 have hnl:¬(Value.slice (some ⟨g,0,none⟩) n c).ownBlock=some lb:=fun e=>(h.nf lb e).1 rfl;have hl:=h.lt;exact⟨h.dZ.cR hk2 (fun b h1 h2=>(h.nf b h2).2 h1) (gB h.fr),hk2.cell h.c0 hnl,hk2.cell h.c1 hnl,hk2.cell h.c2 hnl,hk2.cell h.c3 hnl,hk2.cell h.c4 hnl,fun j h1 h2=>(hk2.frozen (a:=⟨lb,j,none⟩) hl hnl).trans (h.fz j h1 h2),
  (fun b hb j y hy=>by subst hb;exact h.n8 b rfl j y (by rw[<- World.cell?_of_block (a:=⟨b,j,none⟩) (hk2.block b hl hnl)];exact hy)),h.es,h.er.kept hk2 fun b hb e=>(h.ne b hb).2.2 e,hs,h.dat.cR hk2 (gB h.fr),h.nl,h.ne,h.nf⟩

theorem cM.yZ {w:World}{e:TypeId}{sz g n c:Nat}{rs:List (List Value)}(h:cM w e sz (.slice (some ⟨g,0,none⟩) n c) rs)(j:Nat):w.frozen? ⟨g,j,none⟩=false:=by
 rcases h.own with ⟨e1,_⟩|⟨g',cap,cur,e1,hg,_⟩
 ·cases e1
 ·cases e1;simp[World.frozen?,hg]
theorem cM.some {w:World}{e:TypeId}{sz:Nat}{v:Value}{rs:List (List Value)}(h:cM w e sz v rs)(hne:rs ≠ []):∃g c,v = .slice (some ⟨g,0,none⟩) rs.length c/\rs.length<=c/\g<w.heap.size:=by
 rcases h.own with ⟨_,e1⟩|⟨g,cap,cur,e1,hg,hn,_⟩
 ·exact absurd e1 hne
 ·exact⟨g,cap,e1,hn,(Array.getElem?_eq_some_iff.1 hg).1⟩
theorem bF.aGN {w:World}{lb db mb tb g n c:Nat}{ev:Value}{el:bN}{D:aA}{L:aQ}(h:bF w lb db mb tb ev (.slice (some ⟨g,0,none⟩) n c) el D L){k:Nat}(hk:k<L.fs.length) :
  w.cell? ⟨g,k*3,none⟩=some (.int .u64 L.fs[k].f)/\w.cell? ⟨g,k*3+1,none⟩=some (.int .i64 L.fs[k].m)/\w.cell? ⟨g,k*3+2,none⟩=some (.int .i64 L.fs[k].s):=by
 have hk':k<(L.fs.map cY).length:=by rw[List.length_map];exact hk
 have hrow:(L.fs.map cY)[k]=cY L.fs[k]:=by simp
 have H:∀i u,(cY L.fs[k])[i]? = some u->w.cell? ⟨g,k*3+i,none⟩=some u:=fun i u hu=>by
  have:=h.fr.flat (k*3+i) u (kY h.fr.each hk' (by rw[hrow];exact hu))
  rwa [Addr.add_lit,Nat.zero_add]at this
 exact⟨H 0 _ rfl,H 1 _ rfl,H 2 _ rfl⟩
def aX (lb db mb tb:Nat)(w:World)(ev fv:Value)(w':World)(ev' fv':Value):Prop :=
 Kept w w' (mE lb db mb tb ev fv)/\(∀b,ev'.ownBlock=some b->ev.ownBlock=some b\/w.heap.size<=b)/\(∀b,fv'.ownBlock=some b->fv.ownBlock=some b\/w.heap.size<=b)
theorem aX.refl (lb db mb tb:Nat)(w:World)(ev fv:Value):aX lb db mb tb w ev fv w ev fv:=⟨Kept.refl _ _,fun _ h=>.inl h,fun _ h=>.inl h⟩
theorem aX.trans {lb db mb tb:Nat}{w w1 w2:World}{ev fv ev' fv' ev'' fv'':Value}(h:aX lb db mb tb w ev fv w1 ev' fv')(k:aX lb db mb tb w1 ev' fv' w2 ev'' fv''):aX lb db mb tb w ev fv w2 ev'' fv'':=by
 refine⟨h.1.andThen k.1 fun b hb hs=>?_,fun b hb=>?_,fun b hb=>?_⟩
 ·rcases hs with hs|hs|hs|hs|hs
  ·exact hs
  ·exact .inl hs
  ·exact .inr (.inl hs)
  ·rcases h.2.1 b hs with e|e
   ·exact .inr (.inr (.inl e))
   ·exact absurd hb (Nat.not_lt.2 e)
  ·rcases h.2.2 b hs with e|e
   ·exact .inr (.inr (.inr e))
   ·exact absurd hb (Nat.not_lt.2 e)
 ·rcases k.2.1 b hb with e|e
  ·exact h.2.1 b e
  ·exact .inr (Nat.le_trans h.1.size e)
 ·rcases k.2.2 b hb with e|e
  ·exact h.2.2 b e
  ·exact .inr (Nat.le_trans h.1.size e)
theorem aX.below {lb db mb tb:Nat}{w w':World}{ev fv:Value}(h:Below w.heap.size w w'):aX lb db mb tb w ev fv w' ev fv :=
 ⟨Kept.aL h fun k h1 h2=>by omega,fun _ h=>.inl h,fun _ h=>.inl h⟩
theorem aX.dZ {lb db mb tb:Nat}{w w':World}{ev fv:Value}(h:Kept w w' (aZ db mb tb)):aX lb db mb tb w ev fv w' ev fv :=
 ⟨h.mono fun _k _ e=>.inr (.inl e),fun _ h=>.inl h,fun _ h=>.inl h⟩
theorem aX.own {lb db mb tb:Nat}{w w':World}{ev fv:Value}(h:Kept w w' (fun k=>k=lb)):aX lb db mb tb w ev fv w' ev fv :=
 ⟨h.mono fun _k _ e=>.inl e,fun _ h=>.inl h,fun _ h=>.inl h⟩
theorem bF.new {w:World}{db mb tb:Nat}{D:aA}(h:aG w db mb tb D) :
  bF (w.alloc (.cells #[.pointer (some ⟨db,0,none⟩),.int .u64 0,.slice none 0 0,.slice none 0 0,.int .i64 0] 34)) w.heap.size db mb tb (.slice none 0 0) (.slice none 0 0) [] D ⟨0,[],[],0⟩:=by
 have hb:(w.alloc (.cells #[.pointer (some ⟨db,0,none⟩),.int .u64 0,.slice none 0 0,.slice none 0 0,.int .i64 0] 34)).heap[w.heap.size]? = some (.cells #[.pointer (some ⟨db,0,none⟩),.int .u64 0,.slice none 0 0,.slice none 0 0,.int .i64 0] 34 (0,0)):=heap_alloc_new _ _;refine⟨h.below ((Below.refl _ _).alloc (Nat.le_refl _) _),by go_cell,by go_cell,by go_cell,by go_cell,by go_cell,fun j _ _=>by simp,fun k hk j x hx=>?_,rfl,cM.nil _ _ _,cM.nil _ _ _,nofun,fun e=>?_,nofun,nofun⟩
 ·subst hk;unfold World.cell? at hx;simp only at hx;rw[hb]at hx;rcases j with _|_|_|_|_|j<;>simp at hx
 ·have:=h.lt3 _ e;omega
theorem lQ {w:World}{S:Nat->Prop}{l:bN}(h:cA w S l):No8 (aN l).flatten:=by
 intro x hx;obtain⟨r,hr,hx⟩:=List.mem_flatten.1 hx;obtain⟨p,hp,rfl⟩:=List.mem_map.1 hr;simp only[eP,List.mem_cons,List.not_mem_nil,or_false,reduceCtorEq,Value.int.injEq,false_and,false_or]at hx;obtain⟨a,c,e,_⟩:=(h p hp).1.shape;rw[e]at hx;cases hx
end Go.Proofs.YtjdglpcnkiioeaaGreat
namespace Go.Proofs.YtjdglpcnkiioeaaGreat
open Go.Lib (hid)
open Go.RowKit Go.Maps Go.Proofs.Own

theorem nK:eQ Tryz.prog 23 38 3 40:=by
 obtain⟨i0,hi,hz0,hz1,hz2⟩:=info_parts (show (Tryz.prog.info? 38).map (fun i=>(i.zero,i.size,i.bytes))=some (some (.agg #[.int .u64 0,.int .i64 0,.slice none 0 0]),3,40) by kernel_rfl);exact⟨Tryz.underlying23,⟨i0,_,hi,hz0,hz1,hz2,rfl⟩,by decide,by decide⟩
theorem aBD:eQ Tryz.prog 32 188 3 24:=by
 obtain⟨i0,hi,hz0,hz1,hz2⟩:=info_parts (show (Tryz.prog.info? 188).map (fun i=>(i.zero,i.size,i.bytes))=some (some (.agg #[.int .u64 0,.int .i64 0,.int .i64 0]),3,24) by kernel_rfl);exact⟨Tryz.underlying32,⟨i0,_,hi,hz0,hz1,hz2,rfl⟩,by decide,by decide⟩
theorem wQ:aBN Tryz.prog 38:=fun i z hi hz=>by
 obtain⟨i0,h1,h2,_,_⟩:=info_parts (show (Tryz.prog.info? 38).map (fun i=>(i.zero,i.size,i.bytes))=some (some (.agg #[.int .u64 0,.int .i64 0,.slice none 0 0]),3,40) by kernel_rfl);rw[hi]at h1;cases h1;rw[hz]at h2;cases h2;intro x hx;simp[Value.cells]at hx
theorem aBE:aBN Tryz.prog 188:=fun i z hi hz=>by
 obtain⟨i0,h1,h2,_,_⟩:=info_parts (show (Tryz.prog.info? 188).map (fun i=>(i.zero,i.size,i.bytes))=some (some (.agg #[.int .u64 0,.int .i64 0,.int .i64 0]),3,24) by kernel_rfl);rw[hi]at h1;cases h1;rw[hz]at h2;cases h2;intro x hx;simp[Value.cells]at hx
theorem aGu (l:List WF):No8 (l.map cY).flatten:=by
 intro x hx;obtain⟨r,hr,hx⟩:=List.mem_flatten.1 hx;obtain⟨p,hp,rfl⟩:=List.mem_map.1 hr;simp[cY]at hx
theorem aGv (l:List WF):∀r ∈ l.map cY,∀u ∈ r,u.oneCell'=true:=fun r hr u hu=>by
 obtain⟨p,hp,rfl⟩:=List.mem_map.1 hr;simp only[cY,List.mem_cons,List.not_mem_nil,or_false]at hu;rcases hu with rfl|rfl|rfl<;>rfl

theorem wP (v:Value)(l:bN)(w:World)(h:bJ w 3 v (aN l))(hd:cA w (fun _=>False) l)(hl:l.length<=2147483648) :
  Calls Tryz.prog 116 #[v] w fun e w'=>∃v',e = .returned v'/\cM w' 38 3 v' (aN l)/\Below w.heap.size w w' /\ ∀b,v'.ownBlock=some b->w.heap.size<=b:=by
 have H:=hid h;have HD:=hid hd;have HL:=hid hl;obtain⟨a,c,rfl,_⟩:=h.shape;have HN:Hid ((aN l).length=l.length):=hid (aO l);clear hd hl;cases a with
 | none =>
  have hz:l = []:=by
   cases l with
   | nil=>rfl
   | cons p r =>
    obtain⟨b,o,e,_⟩:=h.at (j:=0) (by simp[aN]);cases e
  subst hz;clear h;rw[show (aN ([]:bN)).length=0 from rfl];have h0:=fun w=>Lib.run_eql_slice_nil (P:=Tryz.prog) w 23 38 none 0 c 0 0 Tryz.underlying23;go_enter Tryz.func116,Tryz.ntmps116;go_wp2_with fail;go_ret;exact⟨_,rfl,cM.nil _ _ _,Below.refl _ _,nofun⟩
 | some ad =>
  have h0:=fun w=>Lib.run_eql_slice_nil (P:=Tryz.prog) w 23 38 (some ad) (aN l).length c 0 0 Tryz.underlying23;clear h;generalize hq:(aN l).length=q at *
  have HQ:=hid hq;clear hq;go_enter Tryz.func116,Tryz.ntmps116
  go_wp2_with (at_builtin;go_loud (refine dF nK _ _ rfl (.slice (some ⟨w.heap.size,0,none⟩) 0 0) (.slice (some ad) q c) [] (aN l) rfl rfl (cM.made (heap_alloc_new _ _)) (H.out.below ((Below.refl _ _).alloc (Nat.le_refl _) _)) (gP l) HD.out.lV (lQ HD.out) wQ (by have:=HL.out;have:=HN.out;have:=HQ.out;simp only[List.length_nil];omega) rfl ?_;intro v2 w2 ho2 hg2 hat2;have O2:=hid ho2;have G2:=hid hg2;have A2:=hid hat2;clear ho2 hg2 hat2))
  go_ret;have ho:∀b,v2.ownBlock=some b->w.heap.size<=b:=fun b hb=>by
   rcases A2.out with e|e
   ·rw[e]at hb;obtain rfl:=Option.some.inj hb;exact Nat.le_refl _
   ·rw[e]at hb;obtain rfl:=Option.some.inj hb;simp
  refine⟨v2,rfl,by have h:=O2.out;rw[List.nil_append]at h;exact h,?_,ho⟩;exact((Below.refl _ _).alloc (Nat.le_refl _) _).grown G2.out (by simp) (fun g hg=>by obtain rfl:=Option.some.inj hg;exact Nat.le_refl _)
theorem wR (v:Value)(l:List WF)(w:World)(h:bJ w 3 v (l.map cY))(hl:l.length<=2147483648) :
  Calls Tryz.prog 121 #[v] w fun e w'=>∃v',e = .returned v'/\cM w' 188 3 v' (l.map cY)/\Below w.heap.size w w' /\ ∀b,v'.ownBlock=some b->w.heap.size<=b:=by
 have H:=hid h;have HL:=hid hl;obtain⟨a,c,rfl,_⟩:=h.shape;have HN:Hid ((l.map cY).length=l.length):=hid (List.length_map ..);clear hl;cases a with
 | none =>
  have hz:l = []:=by
   cases l with
   | nil=>rfl
   | cons p r =>
    obtain⟨b,o,e,_⟩:=h.at (j:=0) (by simp);cases e
  subst hz;clear h;rw[show (List.map cY ([]:List WF)).length=0 from rfl];have h0:=fun w=>Lib.run_eql_slice_nil (P:=Tryz.prog) w 32 188 none 0 c 0 0 Tryz.underlying32;go_enter Tryz.func121,Tryz.ntmps121;go_wp2_with fail;go_ret;exact⟨_,rfl,cM.nil _ _ _,Below.refl _ _,nofun⟩
 | some ad =>
  have h0:=fun w=>Lib.run_eql_slice_nil (P:=Tryz.prog) w 32 188 (some ad) (l.map cY).length c 0 0 Tryz.underlying32;clear h;generalize hq:(l.map cY).length=q at *
  have HQ:=hid hq;clear hq;go_enter Tryz.func121,Tryz.ntmps121
  go_wp2_with (at_builtin;go_loud (refine dF aBD _ _ rfl (.slice (some ⟨w.heap.size,0,none⟩) 0 0) (.slice (some ad) q c) [] (l.map cY) rfl rfl (cM.made (heap_alloc_new _ _)) (H.out.below ((Below.refl _ _).alloc (Nat.le_refl _) _)) (aEr l) (aGv l) (aGu l) aBE (by have:=HL.out;have:=HN.out;have:=HQ.out;simp only[List.length_nil];omega) rfl ?_;intro v2 w2 ho2 hg2 hat2;have O2:=hid ho2;have G2:=hid hg2;have A2:=hid hat2;clear ho2 hg2 hat2))
  go_ret;have ho:∀b,v2.ownBlock=some b->w.heap.size<=b:=fun b hb=>by
   rcases A2.out with e|e
   ·rw[e]at hb;obtain rfl:=Option.some.inj hb;exact Nat.le_refl _
   ·rw[e]at hb;obtain rfl:=Option.some.inj hb;simp
  refine⟨v2,rfl,by have h:=O2.out;rw[List.nil_append]at h;exact h,?_,ho⟩;exact((Below.refl _ _).alloc (Nat.le_refl _) _).grown G2.out (by simp) (fun g hg=>by obtain rfl:=Option.some.inj hg;exact Nat.le_refl _)
end Go.Proofs.YtjdglpcnkiioeaaGreat
namespace Go.Proofs.YtjdglpcnkiioeaaGreat
open Go.RowKit Go.Maps Go.Proofs.Own

theorem oB {D:aA}(hd:D.down=false):(bP D).down=true ↔ D.armed=0:=by
 unfold bP;by_cases h:D.armed=0
 ·rw[if_pos h];simp[h]
 ·rw[if_neg h];split<;>simp[h,hd]
theorem sO {D:aA}(hd:D.down=false)(ha:¬D.armed=0):(bP D).down=false:=by
 have:=(not_congr (oB hd)).2 ha
 simpa using this

theorem aAV (A B:List aJ):total (A++B)=total A+total B:=by simp[total]
def aBI (r:aA × Nat):Prop:=r.1.down=true->r.2=50
theorem aBI.up {r:aA × Nat}(h:aBI r)(he:r.2=0):r.1.down=false:=by
 cases e:r.1.down with
 | false=>rfl
 | true=>have:=h e;omega
theorem aBI.same {D:aA}(hd:D.down=false)(e:Nat):aBI (D,e):=fun h=>by simp only[hd]at h;cases h
theorem aDA {D:aA}(hd:D.down=false)(ha:¬D.armed=0)(L:List aJ):aBI ({ bP D with files:=L },0):=fun h=>by
 have h':(bP D).down=true:=h;rw[sO hd ha]at h';cases h'
theorem aB8 {D:aA}(hd:D.down=false)(n:ByteArray):aBI (removeD D n):=by
 unfold removeD;split
 ·rw[if_neg (by rw[hd];decide)];split
  ·exact fun _=>rfl
  ·rename_i ha;exact aDA hd ha _
 ·exact aBI.same hd _
theorem aFt {D:aA}(hd:D.down=false)(n:ByteArray):aBI (dM D n):=fun h=>by
 have:=aB8 hd n h;show (if (removeD D n).2=31 then 0 else (removeD D n).2)=50;rw[this];rfl

def rfV (f:aJ):List Value:=[.string f.name,.string (bX f.all),.int .i64 f.kept]
def kE (L:List aJ):Prop:=∀f ∈ L,∀c ∈ f.all,c<256
theorem aEc (a b:ByteArray):(a.toList==b.toList)=decide (a=b):=by
 rw[ByteArray.toList_eq,ByteArray.toList_eq];by_cases h:a=b
 ·subst h;simp
 ·rw[decide_eq_false h];refine beq_eq_false_iff_ne.2 fun e=>h ?_;cases a;cases b
  congr
  exact Array.toList_inj.1 e
theorem uP:∀a b:List UInt8,Op.bytesLess a b=bytesBefore a b
 | [],[]=>rfl
 | [],_::_=>rfl
 | _::_,[]=>rfl
 | a::r,b::s=>by unfold Op.bytesLess bytesBefore;rw[uP r s]
theorem aKk (a b:ByteArray):Op.bytesLess a.toList b.toList=dS a b:=by
 rw[ByteArray.toList_eq,ByteArray.toList_eq,uP];rfl
theorem yR (l m:List Nat):bX l++bX m=bX (l++m):=by
 have h:(bX l++bX m).data=(bX (l++m)).data:=by
  rw[ByteArray.data_append];simp[bX]
 cases h1:bX l++bX m with
 | mk d=>cases h2:bX (l++m) with
  | mk d'=>rw[h1,h2]at h;simp only at h;rw[h]
theorem aGl (l:List Nat)(k:Nat):(bX l).extract 0 k=bX (l.take k):=by
 have h:((bX l).extract 0 k).data=(bX (l.take k)).data:=by
  rw[ByteArray.data_extract];simp[bX,List.map_take]
 cases h1:(bX l).extract 0 k with
 | mk d=>cases h2:bX (l.take k) with
  | mk d'=>rw[h1,h2]at h;simp only at h;rw[h]
def oU (n:ByteArray)(L:List aJ):Int:=if aE n L=none then -1 else ((L.takeWhile fun f=>!decide (f.name=n)).length:Nat)
theorem aGn {n:ByteArray}{L:List aJ}(h:∀f ∈ L,¬f.name=n):oU n L = -1:=by unfold oU;rw[if_pos (aAi h)]
theorem wU {n:ByteArray}:∀ {L:List aJ} {i:Nat} {f:aJ},L[i]? = some f->f.name=n->(∀g ∈ L.take i,¬g.name=n)->aE n L=some f/\(L.takeWhile fun f=>!decide (f.name=n)).length=i
 | [],i,f,h,_,_=>by simp at h
 | g::L,0,f,h,hn,_=>by
  obtain rfl:g=f:=by simpa using h
  exact⟨gQ hn,by rw[List.takeWhile_cons_of_neg (by simpa using hn)];rfl⟩
 | g::L,i+1,f,h,hn,hb=>by
  have hg:¬g.name=n:=hb g (by rw[List.take_succ_cons];exact List.mem_cons_self);obtain⟨h1,h2⟩:=wU (L:=L) (i:=i) (f:=f) (by simpa using h) hn fun q hq=>hb q (by rw[List.take_succ_cons];exact List.mem_cons_of_mem _ hq);exact⟨(fT hg).trans h1,by rw[List.takeWhile_cons_of_pos (by simpa using hg),List.length_cons,h2]⟩
theorem uF {n:ByteArray}{L:List aJ}{i:Nat}{f:aJ}(h:L[i]? = some f)(hn:f.name=n)(hb:∀g ∈ L.take i,¬g.name=n):oU n L=i:=by
 obtain⟨h1,h2⟩:=wU h hn hb;unfold oU;rw[if_neg (by rw[h1];simp),h2]
theorem eR {n:ByteArray}{L:List aJ}{f:aJ}(h:aE n L=some f):∃i:Nat,oU n L=i/\L[i]? = some f:=by
 induction L with
 | nil=>simp[aE]at h
 | cons g L ih =>
  by_cases hg:g.name=n
  ·rw[gQ hg]at h;obtain rfl:=Option.some.inj h;exact⟨0,uF rfl hg (by simp),rfl⟩
  ·rw[fT hg]at h;obtain⟨i,h1,h2⟩:=ih h;refine⟨i+1,?_,by simpa using h2⟩;unfold oU at h1 ⊢;rw[if_neg (by rw[h];simp)]at h1;rw[if_neg (by rw[fT hg,h];simp),List.takeWhile_cons_of_pos (by simpa using hg),List.length_cons];have:(L.takeWhile fun f=>!decide (f.name=n)).length=i:=by omega
   omega
theorem fR {n:ByteArray}{L:List aJ}:oU n L = -1 ↔ aE n L=none:=by
 constructor
 ·intro h;cases e:aE n L with
  | none=>rfl
  | some f =>
   obtain⟨i,h1,_⟩:=eR e;omega
 ·intro h;unfold oU;rw[if_pos h]
theorem aAv (f:aJ):∀L:List aJ,∃A B,L=A++B/\insFile f L=A++f::B/\(∀g ∈ A,dS f.name g.name=false)/\(∀g,B.head? = some g->dS f.name g.name=true)
 | []=>⟨[],[],rfl,rfl,nofun,nofun⟩
 | g::L=>by
  by_cases h:dS f.name g.name=true
  ·refine⟨[],g::L,rfl,by rw[insFile,if_pos h];rfl,fun q hq=>(by cases hq),fun q hq=>?_⟩;obtain rfl:g=q:=Option.some.inj hq;exact h
  ·obtain⟨A,B,h1,h2,h3,h4⟩:=aAv f L;refine⟨g::A,B,by rw[h1];rfl,by rw[insFile,if_neg h,h2];rfl,fun q hq=>?_,h4⟩;rcases List.mem_cons.1 hq with rfl|hq
   ·simpa using h
   ·exact h3 q hq
