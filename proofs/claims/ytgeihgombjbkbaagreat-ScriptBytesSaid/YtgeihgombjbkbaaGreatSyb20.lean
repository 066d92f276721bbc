/- For scbytes_law_holds. -/
import Derived.Test.YtgeihgombjbkbaaGreatSyb11
import Derived.Test.YtgeihgombjbkbaaGreatSyb13
set_option maxHeartbeats 16000000
set_option maxRecDepth 100000
namespace Go.Proofs.YtgeihgombjbkbaaGreat
open Go.Lib (hid)
open Go.RowKit Go.Maps Go.Proofs.Own

def bL (n:Nat):List Nat:=if _h:n=0 then [] else bL (n / 256) ++ [n % 256]
termination_by n
decreasing_by omega
theorem eO:bL 0 = []:=by rw[bL];simp
theorem dY {n:Nat}(h:n≠0):bL n=bL (n / 256) ++ [n % 256]:=by rw[bL];simp[h]
def aC (n:Nat):List Nat:=(bL n).length::bL n
theorem rI (n:Nat):∀c ∈ bL n,c<256:=by
 induction n using Nat.strongRecOn with
 | _ n ih =>
  by_cases h:n=0
  ·subst h;rw[eO];simp
  ·rw[dY h];intro c hc;rcases List.mem_append.1 hc with hc|hc
   ·exact ih _ (by omega) c hc
   ·simp at hc;omega
theorem aAB (k:Nat):∀n,n<256 ^ k->(bL n).length<=k:=by
 induction k with
 | zero => intro n h; obtain rfl : n = 0 := by simpa using h
           rw[eO];exact Nat.le_refl _
 | succ k ih =>
  intro n h;by_cases h0:n=0
  ·subst h0;rw[eO];simp
  ·rw[dY h0,List.length_append];have:=ih (n / 256) (by rw[Nat.pow_succ]at h;omega);simp;omega
theorem eG {n : Nat} (h : (n : Int) < 18446744073709551616) : (bL n).length ≤ 8 := aAB 8 n (by have : (256 : Nat) ^ 8 = 18446744073709551616 := by decide
                                                                                               rw[this];exact Int.ofNat_lt.1 h)
theorem iI {n:Nat}(h:(n:Int)<18446744073709551616):∀c ∈ aC n,c<256:=by
 intro c hc;have:=eG h;rcases List.mem_cons.1 hc with rfl|hc
 ·omega
 ·exact rI n c hc
theorem bB {n:Nat}(h:(n:Int)<18446744073709551616):(aC n).length<=9:=by
 have:=eG h;simp only[aC,List.length_cons];omega

theorem qL (n:Nat)(w:World)(hn:(n:Int)<18446744073709551616) :
  Calls Tryz.prog 54 #[.int .u64 n] w fun e w'=>∃v,e = .returned v/\aX w' w.heap.size 5 .u8 v (ints (aC n))/\Below w.heap.size w w':=by
 have HL8:=hid (eG hn);go_enter Tryz.func54,Tryz.ntmps54;go_wp2_with fail
 go_loopw [0,3] (fun x s wr=>∃(m:Nat) (acc:List Nat),(m:Int)<18446744073709551616/\x = .int .u64 m/\aX wr w.heap.size 5 .u8 s (ints acc)/\bL m++acc=bL n/\Below w.heap.size w wr) (fun x _ _=>(intOf x).toNat)
 case atStart=>exact⟨n,[],hn,rfl,aX.nil _ _ _ _,by simp,Below.refl _ _⟩
 case round =>
  obtain⟨m,acc,hm,rfl,hown,hdig,hbl⟩:=hrel;have HB:=hid hbl;have HO:=hid hown;have HD:=hid hdig;have HM:=hid hm;have hsz:=hbl.size;obtain⟨a,c,rfl⟩:=hown.shape;have hal:acc.length<=8:=by have:=HL8.out;rw[<- hdig,List.length_append]at this;omega
  clear hbl hown hdig hm;rw[aD]at *
  by_cases h0:m=0
  ·subst h0;have HE:Hid (acc=bL n):=hid (by have:=HD.out;rwa [eO,List.nil_append]at this);have HLN:Hid (([(acc.length:Int)]:List Int).length+(ints acc).length<=4294967296):=hid (by rw[aD];simp only[List.length_cons,List.length_nil];omega);have H1:Hid (∀(u:World) (z:Int),aX (u.alloc (.cells #[.int .u8 z] 5)) u.heap.size 5 .u8 (.slice (some ⟨u.heap.size,0,none⟩) 1 1) [z]) :=
    hid fun u z=>aX.lit (zs:=[z]) (heap_alloc_new _ _) (Nat.le_refl _) (by simp)
   go_wp2_with (at_builtin;refine aG Tryz.u8s _ _ rfl _ _ _ _ _ rfl rfl (H1.out _ _) (HO.out.reads.alloc _) (by decide) HLN.out (by simp) rfl ?_;intro v2 w2 hown2 hgr2 hat2 hnil2 hbel2;have HO2:=hid hown2;have B2:=hid hbel2;clear hown2 hgr2 hat2 hnil2 hbel2)
   go_ret;have HA:=HE.out;subst HA;have B2':Below w.heap.size w w2:=HB.out.trans (((Below.refl _ _).alloc hsz _).trans (B2.out.mono hsz));exact⟨v2,rfl,HO2.out.lower (fun b hb=>by have:=(HO2.out.lt b hb).1;omega),B2'⟩
  ·have hm0:(0:Int)<(m:Int):=by omega
   have HLN:Hid (([(m:Int) % 256]:List Int).length+(ints acc).length<=4294967296):=hid (by rw[aD];simp only[List.length_cons,List.length_nil];omega);have H1:Hid (∀(u:World) (z:Int),aX (u.alloc (.cells #[.int .u8 z] 5)) u.heap.size 5 .u8 (.slice (some ⟨u.heap.size,0,none⟩) 1 1) [z]) :=
    hid fun u z=>aX.lit (zs:=[z]) (heap_alloc_new _ _) (Nat.le_refl _) (by simp)
   have HDS:=hid (dY h0);clear h0;have hm1:(m:Int)<18446744073709551616:=HM.out;have HQ:Hid (((m / 256:Nat):Int)=(m:Int) / 256):=hid (by omega);have HR:Hid (((m % 256:Nat):Int)=(m:Int) % 256):=hid (by omega);generalize hz:(m:Int)=z at hm0 hm1 HQ HR HLN ⊢;have HZ:=hid hz;clear hz;have hzr:0<=z % 256/\z % 256<256:=by omega
   go_wp2_with (at_builtin;refine aG Tryz.u8s _ _ rfl _ _ _ _ _ rfl rfl (H1.out _ _) (HO.out.reads.alloc _) (by decide) HLN.out (by simp) rfl ?_;intro v2 w2 hown2 hgr2 hat2 hnil2 hbel2;have HO2:=hid hown2;have B2:=hid hbel2;clear hown2 hgr2 hat2 hnil2 hbel2)
   go_roundw
   case rel =>
    refine⟨m / 256,(m % 256)::acc,Int.lt_of_le_of_lt (by omega) HM.out,by rw[HQ.out],?_,?_,HB.out.trans (((Below.refl _ _).alloc hsz _).trans (B2.out.mono hsz))⟩
    ·rw[show ints (m % 256::acc) = [z % 256]++ints acc by rw[<- HR.out];rfl];exact HO2.out.lower (fun b hb=>by have:=(HO2.out.lt b hb).1;omega)
    ·rw[<- HD.out,HDS.out,List.append_assoc];rfl
   all_goals (show (z / 256).toNat<z.toNat;omega)
end Go.Proofs.YtgeihgombjbkbaaGreat
namespace Go.Proofs.Own
open Go Go.RowKit

theorem new_cells {w:World}{r:List Value}{tt:TypeId}:∀j u,r[j]? = some u->(w.alloc (.cells r.toArray tt)).cell? ⟨w.heap.size,j,none⟩=some u:=fun j u h=>by
 rw[World.cell?_alloc_new]
 simpa using h
theorem ap2 {P:Program}{t e tt:TypeId}{sz by':Nat}(I:cM P t e sz by'){w:World}{o:Oper}{a:Act}{Q:Exit->Act->World->Prop}{s x:Operand}{base:Nat}{v:Value}{rs:List (List Value)}{r:List Value}{ops:Array Oper}{rest:List Oper}
  (hown:dZ w base e sz v rs) (hr:r.length=sz) (h1:∀u ∈ r,u.oneCell'=true) (hlen:rs.length<=4294967296) (hbase:base<=w.heap.size)
  (ho:o.op = .call { callee:=.builtin .append,args:=#[s,x],argTypes:=#[t,t] }) (hgd:o.guard=none) (hs:a.eval s=v) (hx:a.eval x = .slice (some ⟨w.heap.size,0,none⟩) 1 1)
  (h:∀v' w',dZ w' base e sz v' (rs ++ [r])->Below base w w'->Kept w w' (fun k=>v.ownBlock=some k)->(∀b,v'.ownBlock=some b->v.ownBlock=some b\/w.heap.size<b)->wpList P ops Q rest (a.put o.dst v') w'):wpList P ops Q (o::rest) a (w.alloc (.cells r.toArray tt)):=by
 refine mB I s x ho base v rs w.heap.size r hs hx (hown.alloc _) hr new_cells h1 hlen (by rw[World.size_alloc];omega) hgd fun v' w' k1 k2 k3 k4=>?_;refine h v' w' k1 (((Below.refl _ _).alloc hbase _).trans k4) ((Kept.alloc w _ _).trans (Kept.eX k2)) fun b hb=>?_;rcases k3 with k3|k3
 ·exact .inl (k3 ▸ hb)
 ·rw[k3]at hb;refine .inr ?_;have:=Option.some.inj hb;rw[World.size_alloc]at this;omega
end Go.Proofs.Own
namespace Go.Proofs.YtgeihgombjbkbaaGreat
open Go.Lib (hid)
open Go.RowKit Go.Maps Go.Proofs.Own

structure eA (w:World)(a:Nat)(v:Value)(l:List Nat):Prop where
 c:w.cell? ⟨a,0,none⟩=some v
 own:aX w (a+1) 5 .u8 v (ints l)
 fr:w.frozen? ⟨a,0,none⟩=false
structure fP (w w':World)(a:Nat)(v v':Value):Prop where
 kept:Kept w w' (fun k=>k=a\/v.ownBlock=some k)
 at':∀b,v'.ownBlock=some b->v.ownBlock=some b\/w.heap.size<=b
theorem fP.refl (w:World)(a:Nat)(v:Value):fP w w a v v:=⟨Kept.refl _ _,fun _ h=>.inl h⟩
theorem fP.trans {w u x:World}{a:Nat}{v v' v'':Value}(h:fP w u a v v')(k:fP u x a v' v''):fP w x a v v'':=by
 refine⟨h.kept.andThen k.kept fun b hb hs=>?_,fun b hb=>?_⟩
 ·rcases hs with hs|hs|hs
  ·exact hs
  ·exact .inl hs
  ·rcases h.at' b hs with h1|h1
   ·exact .inr h1
   ·omega
 ·rcases k.at' b hb with h1|h1
  ·exact h.at' b h1
  ·exact .inr (Nat.le_trans h.kept.size h1)
theorem eA.lt {w:World}{a:Nat}{v:Value}{l:List Nat}(h:eA w a v l):a<w.heap.size:=World.block_lt_of_cell? _ _ h.c
theorem eA.below {w w':World}{a:Nat}{v:Value}{l:List Nat}(h:eA w a v l)(hb:Below w.heap.size w w'):eA w' a v l :=
 ⟨Below.at hb h.c h.lt,h.own.below hb,by rw[hb.frozen (p:=⟨a,0,none⟩) h.lt];exact h.fr⟩
theorem fP.aQ {w u x:World}{a:Nat}{v v':Value}{l:List Nat}(hb:Below w.heap.size w u)(h:fP u x a v v')(_hw:eA w a v l):fP w x a v v' :=
 ⟨(Kept.aQ hb (S:=fun k=>k=a\/v.ownBlock=some k) fun k h1 h2=>by omega).trans h.kept,fun b hb'=>(h.at' b hb').imp id fun e=>Nat.le_trans hb.size e⟩

theorem aJs {n:Nat}:∀j (h:j<(bL n).length),(bL n)[j]=n / 256 ^ ((bL n).length-1-j) % 256:=by
 induction n using Nat.strongRecOn with
 | _ n ih =>
  intro j hj;by_cases h0:n=0
  ·subst h0;simp[eO]at hj
  ·have hl:(bL n).length=(bL (n / 256)).length+1:=by rw[dY h0];simp
   by_cases h1:j<(bL (n / 256)).length
   ·have he:(bL n)[j]=(bL (n / 256))[j]:=by
     have:(bL n)[j]? = (bL (n / 256))[j]?:=by rw[dY h0,List.getElem?_append_left h1]
     rw[List.getElem?_eq_getElem hj,List.getElem?_eq_getElem h1]at this;exact Option.some.inj this
    rw[he,ih _ (by omega) j h1,hl,show (bL (n / 256)).length+1-1-j=((bL (n / 256)).length-1-j)+1 by omega,Nat.pow_succ,Nat.mul_comm,<- Nat.div_div_eq_div_mul]
   ·have hje:j=(bL (n / 256)).length:=by omega
    have he:(bL n)[j]=n % 256:=by
     have:(bL n)[j]? = some (n % 256):=by rw[dY h0,hje,List.getElem?_append_right (Nat.le_refl _)];simp
     rw[List.getElem?_eq_getElem hj]at this;exact Option.some.inj this
    rw[he,hl,hje];simp
theorem aLW (r:Nat):(2:Int) ^ (8*r)=((256 ^ r:Nat):Int):=by
 rw[show (256:Nat)=2 ^ 8 from rfl,<- Nat.pow_mul];simp
theorem eA.put {w w1 w2:World}{a:Nat}{v v2:Value}{l l':List Nat}(h:eA w a v l)(hb:Below w.heap.size w w1)(hg:w1.grownBy w2 v.ownBlock)(ho:aX w2 (a+1) 5 .u8 v2 (ints l'))(hat:v2.ownBlock=v.ownBlock\/v2.ownBlock=some w1.heap.size) :
  eA (w2.setCell ⟨a,0,none⟩ v2) a v2 l'/\fP w (w2.setCell ⟨a,0,none⟩ v2) a v v2:=by
 have h1:=h.below hb;have K:=Kept.eX hg;have hna:¬v.ownBlock=some a:=fun e=>by have:=(h.own.lt a e).1;omega
 have c2:=K.cell h1.c hna;have f2:w2.frozen? ⟨a,0,none⟩=false:=by rw[K.frozen (a:=⟨a,0,none⟩) h1.lt hna];exact h1.fr
 refine⟨⟨css c2,ho.rN v2 (by simp),(World.frozen?_setCell _ _ _ _).trans f2⟩,⟨?_,fun b hb'=>?_⟩⟩
 ·refine(Kept.aQ hb (S:=fun k=>k=a\/v.ownBlock=some k) fun k h1 h2=>by omega).trans ?_;exact K.andThen (Kept.setCell w2 ⟨a,0,none⟩ v2) fun k _ hk=>hk.elim .inr .inl
 ·rcases hat with e|e
  ·exact .inl (e ▸ hb')
  ·rw[e]at hb';obtain rfl:=Option.some.inj hb';exact .inr hb.size

theorem nD (a:Nat)(v:Value)(l:List Nat)(n m:Nat)(w:World)(hw:eA w a v l)(hn:(n:Int)<18446744073709551616)(hm:m<=128)(hl:l.length<=1000000) :
  Calls Tryz.prog 83 #[.pointer (some ⟨a,0,none⟩),.int .u64 n,.int .u8 m] w fun e w'=>e = .returned (.tuple #[]) /\ ∃v',eA w' a v' (l++((m+(bL n).length)::bL n))/\fP w w' a v v':=by
 have HL8:=hid (eG hn);have HW:=hid hw;have HN:=hid hn;have hlt:=hw.lt;clear hw;obtain⟨nz,hnz⟩:∃z:Int,z=(n:Int):=⟨_,rfl⟩;rw[<- hnz]at hn;have HNZ:=hid hnz;have hn0:(0:Int)<=nz:=by omega
 rw[show Value.int .u64 (n:Int)=Value.int .u64 nz by rw[hnz]];have HN0:=hid hn0;clear hnz hn hn0;go_enter Tryz.func83,Tryz.ntmps83;go_wp2_with fail
 go_loop [7,6] (fun x s=>∃(q k:Nat),(q:Int)<18446744073709551616/\x = .int .u64 q/\s = .int .i64 k/\(bL q).length+k=(bL n).length) (fun x _=>(intOf x).toNat)
 case atStart=>exact⟨n,0,HN.out,by rw[HNZ.out],rfl,rfl⟩
 case round =>
  obtain⟨q,k,hq,rfl,rfl,hd⟩:=hrel;have HD:=hid hd;have hk8:k<=8:=by have:=HL8.out;omega
  clear hd;by_cases h0:q=0
  ·subst h0;have HK:Hid (k=(bL n).length):=hid (by have:=HD.out;rw[eO]at this;simpa using this);clear hq;rw[show ((0:Nat):Int)=0 from rfl];have x0:=HW.out.c;have f0:=HW.out.fr;have hna:¬v.ownBlock=some a:=fun e=>by have:=(HW.out.own.lt a e).1;omega
   have HLN:Hid ((ints l).length+([(m:Int)+(k:Int)]:List Int).length<=4294967296):=hid (by rw[aD];simp only[List.length_cons,List.length_nil];omega)
   go_wp2_with (at_builtin;go_loud (refine aG Tryz.u8s _ _ rfl (a+1) v (.slice (some ⟨w.heap.size,0,none⟩) 1 1) (ints l) [(m:Int)+(k:Int)] rfl rfl (HW.out.own.alloc _) (Reads.one _ _ _ _) (by decide) HLN.out (by simp;exact Nat.le_of_lt hlt) rfl ?_;intro v2 w2 hown2 hgr2 hat2 hnil2 hbel2;obtain⟨a2,c2,rfl⟩:=hown2.shape;generalize (ints l ++ [(m:Int)+(k:Int)]).length=n2 at *;have HO2:=hid hown2;have B2:=hid hbel2;have G2:=hid hgr2;have A2:=hid hat2;have x2:=(Kept.eX hgr2).cell (aR x0 _) hna;have f2:w2.frozen? ⟨a,0,none⟩=false:=(by rw[(Kept.eX hgr2).frozen (a:=⟨a,0,none⟩) (by simp;exact Nat.lt_succ_of_lt hlt) hna,<- f0];exact((Below.refl w.heap.size w).alloc (Nat.le_refl _) _).frozen hlt);clear hown2 hgr2 hat2 hnil2 hbel2 x0 f0))
   clear x2 f2;generalize hW3:World.setCell w2 _ _=w3;have HI:Hid (ints l ++ [(m:Int)+(k:Int)]=ints (l ++ [m+k])):=hid (by simp[ints]);have HP:Hid (eA w3 a (.slice a2 n2 c2) (l ++ [m+k])/\fP w w3 a v (.slice a2 n2 c2)):=hid (by
    subst hW3;exact HW.out.put ((Below.refl _ _).alloc (Nat.le_refl _) _) G2.out (l':=l ++ [m+k]) (HI.out ▸ HO2.out) A2.out)
   clear hW3 HO2 B2 G2 A2 HLN HD
   go_loopw [30] (fun i wr=>∃(j:Nat) (v3:Value),j<=k/\i = .int .i64 j/\eA wr a v3 (l++((m+k)::(bL n).take j))/\fP w wr a v v3) (fun i _=>k-(intOf i).toNat)
   case atStart=>exact⟨0,_,Nat.zero_le _,rfl,by simpa using HP.out.1,HP.out.2⟩
   case round =>
    obtain⟨j,v3,hj,rfl,hw3,hg3⟩:=hrel;have HW3:=hid hw3;have HG3:=hid hg3;have hlt3:=hw3.lt;obtain⟨a3,c3,rfl⟩:=hw3.own.shape;clear hw3 hg3;by_cases hjk:j<k
    ·have hw1:IntKind.i64.wrap ((k:Int)-1)=(k:Int)-1:=by simp only[IntKind.wrap_i64];omega
     have hw2:IntKind.i64.wrap ((k:Int)-1-(j:Int))=(k:Int)-1-(j:Int):=by simp only[IntKind.wrap_i64];omega
     have hw4:IntKind.i64.wrap (8*((k:Int)-1-(j:Int)))=8*((k:Int)-1-(j:Int)):=by simp only[IntKind.wrap_i64];omega
     have hw5:decide (8*((k:Int)-1-(j:Int))<0)=false:=by simp;omega
     have X3:=hid HW3.out.c;have hjd:j<(bL n).length:=by have:=HK.out;omega
     have HBV:Hid (IntKind.u8.wrap (nz / 2 ^ (8*((k:Int)-1-(j:Int))).toNat)=((bL n)[j]:Nat)):=hid (by
      rw[aJs j hjd,HNZ.out,<- HK.out,show (8*((k:Int)-1-(j:Int))).toNat=8*(k-1-j) by omega,aLW,<- Int.natCast_ediv];simp only[IntKind.wrap_u8];rfl)
     have HTK:Hid ((bL n).take (j+1)=(bL n).take j ++ [(bL n)[j]]):=hid (by rw[List.take_add_one,List.getElem?_eq_getElem hjd];rfl);have hzl:(bL n)[j]<256:=rI n _ (List.getElem_mem hjd);generalize (bL n)[j]=z at HBV HTK hzl;have hna3:¬(Value.slice a3 (ints (l++((m+k)::(bL n).take j))).length c3).ownBlock=some a:=fun e=>by have:=(HW3.out.own.lt a e).1;omega
     have HLN3:Hid ((ints (l++((m+k)::(bL n).take j))).length+([(z:Int)]:List Int).length<=4294967296):=hid (by rw[aD];simp only[List.length_cons,List.length_nil,List.length_append,List.length_take];omega);generalize hn3:(ints (l++((m+k)::(bL n).take j))).length=n3 at X3 hna3;rw[hn3]at HW3 HG3;go_wp2_with fail;refine dE [0,0,2,6,14,0,0,64,0,448,960,2016,4064,8160,16382,32767,65535,131071] 0 (fun w'=>w'.cell? ⟨a,0,none⟩=some (.slice a3 n3 c3)) (by kernel_rfl) ?_;refine bQ [0,1,2,3,4,5,6,7,8,9,10,11,12] (by kernel_rfl) (L:=bm 18 8191) (by kernel_rfl) (f':=5) rfl (fun _ _ _ _ h=>h) (fun w o h=>(mE.cell _ _).alloc h o) (.inr X3.out) ?_;simp only[sF,sL]
     iterate 13 (first|(refine cK _ (by rfl) (fun w' hs=>by skip;go_simp;try with_reducible rfl) rfl ?_;simp only[Act.put,sA])|(refine cA _ (by rfl) (fun w'=>by go_simp;try with_reducible rfl) ?_;simp only[Act.put,sA]))
     refine cP ?_;refine fL 13 (by kernel_rfl) (L:=bm 18 16383) (by kernel_rfl) ?_;simp only[sL];rw[HBV.out];go_wp2_with fail;generalize hu5:World.alloc _ _=u5;have U5:Hid (Below wr.heap.size wr u5):=hid (by subst hu5;first|exact(Below.refl _ _).alloc (Nat.le_refl _) _|exact((Below.refl _ _).drew).alloc (Nat.le_refl _) _);have R5:Hid (Reads u5 .u8 (.slice (some ⟨wr.heap.size,0,none⟩) 1 1) [(z:Int)]):=hid (by subst hu5;exact Reads.one _ _ _ _);have L5:=U5.out.size;clear hu5;refine cS nofun ?_;refine fL 14 (by kernel_rfl) (L:=bm 18 32767) (by kernel_rfl) ?_;simp only[sL]
     go_loud (refine aG Tryz.u8s _ _ rfl (a+1) (.slice a3 n3 c3) (.slice (some ⟨wr.heap.size,0,none⟩) 1 1) _ [(z:Int)] rfl rfl (by first|exact HW3.out.own.below U5.out|exact(HW3.out.own.below U5.out).drew) (by first|exact R5.out|exact R5.out.drew) (by decide) HLN3.out (by simp;omega) rfl ?_;intro v6 w6 hown6 hgr6 hat6 hnil6 hbel6;obtain⟨a6,c6,rfl⟩:=hown6.shape;have O6:=hid hown6;have G6:=hid hgr6;have A6:=hid hat6;have x6:=(Kept.eX hgr6).cell (Below.at U5.out HW3.out.c hlt3) hna3;have f6:w6.frozen? ⟨a,0,none⟩=false:=(by rw[(Kept.eX hgr6).frozen (a:=⟨a,0,none⟩) (Nat.lt_of_lt_of_le hlt3 L5) hna3];exact(HW3.out.below U5.out).fr);clear hown6 hgr6 hat6 hnil6 hbel6;generalize (ints _ ++ [(z:Int)]).length=n6 at *;go_wp2_with fail)
     refine cS nofun ?_;refine bQ [15,16] (by kernel_rfl) (L:=bm 18 131071) (by kernel_rfl) (f':=1) rfl (fun _ _ _ _ h=>h) (fun w o h=>(mE.cell _ _).alloc h o) (.inl (by kernel_rfl)) ?_;simp only[sF,sL]
     iterate 2 (refine cA _ (by rfl) (fun w'=>by go_simp;try with_reducible rfl) ?_;simp only[Act.put,sA])
     refine cP ?_;refine fL 17 (by kernel_rfl) (L:=bm 18 262143) (by kernel_rfl) ?_;simp only[sL];go_wp2_with fail;refine cS nofun ?_;refine eM (by kernel_rfl) ?_;generalize hW7:World.setCell w6 _ _=w7;have HI7:Hid (ints (l++((m+k)::(bL n).take j)) ++ [(z:Int)]=ints (l++((m+k)::(bL n).take (j+1)))):=hid (by rw[HTK.out];simp[ints]);have HP7:Hid (eA w7 a (.slice a6 n6 c6) (l++((m+k)::(bL n).take (j+1)))/\fP wr w7 a (.slice a3 n3 c3) (.slice a6 n6 c6)):=hid (by
      subst hW7;exact HW3.out.put U5.out.drew G6.out (HI7.out ▸ O6.out) A6.out)
     clear hW7 x6 f6;go_wp2_with fail
     go_roundw
     case measure=>show k-((j:Int)+1).toNat<k-((j:Int)).toNat;omega
     case rel=>exact⟨j+1,_,by omega,by first|rfl|go_num,HP7.out.1,HG3.out.trans HP7.out.2⟩
    ·have hje:j=k:=by omega
     subst hje;go_wp2_with fail;refine bodyPost_end (v:=.tuple #[]) (by simp[results,Tryz.results83,go_sem]) rfl ?_;have HE:Hid ((m+j)::(bL n).take j=(m+(bL n).length)::bL n):=hid (by rw[HK.out,List.take_length]);rw[HE.out]at HW3 HG3;exact⟨rfl,_,HW3.out,HG3.out⟩
  ·have hq0:(0:Int)<(q:Int):=by omega
   have HDS:Hid ((bL q).length=(bL (q / 256)).length+1):=hid (by rw[dY h0];simp);clear h0;have HQ:Hid (((q / 256:Nat):Int)=(q:Int) / 256):=hid (by omega);have HQ1:=hid hq;generalize hz:(q:Int)=z at hq0 hq HQ ⊢;have HZ:=hid hz;clear hz;go_wp2_with fail
   go_round
   case rel =>
    exact⟨q / 256,k+1,Int.lt_of_le_of_lt (by omega) HQ1.out,by rw[HQ.out],by first|rfl|go_num,by have:=HD.out;have:=HDS.out;omega⟩
   all_goals (show (z / 256).toNat<z.toNat;omega)

def aE (ns:List Nat):List Nat:=ns.flatMap aC
theorem vZ (ns:List Nat)(j:Nat)(h:j<ns.length):aE (ns.take (j+1))=aE (ns.take j)++aC ns[j]:=by
 rw[List.take_add_one,List.getElem?_eq_getElem h];unfold aE;simp only[Option.toList_some,List.flatMap_append,List.flatMap_cons,List.flatMap_nil,List.append_nil]
theorem aV (ns:List Nat)(h:∀n ∈ ns,(n:Int)<18446744073709551616):(aE ns).length<=9*ns.length:=by
 induction ns with
 | nil=>simp[aE]
 | cons n ns ih =>
  have h1:=ih fun x hx=>h x (List.mem_cons_of_mem _ hx);have h2:=bB (h n (List.mem_cons_self ..));have e:aE (n::ns)=aC n++aE ns:=by simp[aE]
  rw[e,List.length_append,List.length_cons];omega

theorem vO (a:Nat)(v xv:Value)(l:List Nat)(ns:List Nat)(w:World)(hw:eA w a v l)(hx:Reads w .u64 xv (ints ns))(hns:∀n ∈ ns,(n:Int)<18446744073709551616)(hno:∀b,xv.ownBlock=some b->b≠a/\v.ownBlock≠some b)(hl:l.length+9*ns.length<=1000000) :
  Calls Tryz.prog 35 #[.pointer (some ⟨a,0,none⟩),xv] w fun e w'=>e = .returned (.tuple #[]) /\ ∃v',eA w' a v' (l++aE ns)/\fP w w' a v v':=by
 have HW:=hid hw;have HX:=hid hx;have HNS:=hid hns;have HNO:=hid hno;obtain⟨ad,c,rfl,hc⟩:=hx;clear hw hns hno hc;rw[aD];rw[aD]at HX HNO;have hn63:(ns.length:Int)<=1000000:=by omega
 go_enter Tryz.func35,Tryz.ntmps35;go_wp2_with fail
 go_loopw [10] (fun i wr=>∃(j:Nat) (v3:Value),j<=ns.length/\i = .int .i64 j/\eA wr a v3 (l++aE (ns.take j))/\fP w wr a v v3) (fun i _=>ns.length-(intOf i).toNat)
 case atStart=>exact⟨0,v,Nat.zero_le _,rfl,by simpa [aE] using HW.out,fP.refl _ _ _⟩
 case round =>
  obtain⟨j,v3,hj,rfl,hw3,hg3⟩:=hrel;have HW3:=hid hw3;have HG3:=hid hg3;clear hw3 hg3;by_cases hjk:j<ns.length
  ·have RX:Hid (Reads wr .u64 (.slice ad ns.length c) (ints ns)):=hid (HX.out.kept HG3.out.kept fun b hb hs=>by
    rcases hs with hs|hs
    ·exact(HNO.out b hb).1 hs
    ·exact(HNO.out b hb).2 hs)
   have HCX:Hid (∃b o,ad=some ⟨b,o,none⟩/\wr.cell? ⟨b,o+j,none⟩=some (.int .u64 (ns[j]:Nat))):=hid (by
    obtain⟨_,_,e,h⟩:=RX.out;obtain⟨b,o,h1,h2⟩:=h j (by rw[aD];exact hjk);injection e with e1 e2 e3
    subst e1;exact⟨b,o,h1,by rw[h2,ints_at]⟩)
   obtain⟨b,o,rfl,hcell⟩:=HCX.out;clear HCX;have HTK:=hid (vZ ns j hjk);have HNL:Hid (((ns[j]:Nat):Int)<18446744073709551616):=hid (HNS.out _ (List.getElem_mem hjk));generalize ns[j]=n at hcell HTK HNL;have HLL:Hid ((l++aE (ns.take j)).length<=1000000):=hid (by
    have:=aV (ns.take j) fun x hx=>HNS.out x (List.mem_of_mem_take hx);rw[List.length_take]at this;rw[List.length_append];omega)
   go_wp2_with fail;refine(nD a v3 _ n 0 wr HW3.out HNL.out (by decide) HLL.out).mono ?_;rintro e w4 ⟨rfl,v4,hw4,hg4⟩;have HW4:=hid hw4;have HG4:=hid hg4;clear hw4 hg4 hcell;go_wp2_with fail
   go_roundw
   case rel=>exact⟨j+1,v4,by omega,by first|rfl|go_num,by rw[HTK.out,<- List.append_assoc];have h:=HW4.out;rw[Nat.zero_add]at h;exact h,HG3.out.trans HG4.out⟩
   all_goals (show ns.length-((j:Int)+1).toNat<ns.length-((j:Int)).toNat;omega)
  ·have hje:j=ns.length:=by omega
   subst hje;go_wp2_with fail;refine bodyPost_end (v:=.tuple #[]) (by simp[results,Tryz.results35,go_sem]) rfl ?_;rw[List.take_length]at HW3;exact⟨rfl,_,HW3.out,HG3.out⟩

theorem aJe (a:Nat)(v xv:Value)(l b:List Nat)(w:World)(hw:eA w a v l)(hB:Bytes w xv b)(hl:l.length+b.length<=1000000) :
  Calls Tryz.prog 130 #[.pointer (some ⟨a,0,none⟩),xv] w fun e w'=>e = .returned (.tuple #[]) /\ ∃v',eA w' a v' (l++b)/\fP w w' a v v':=by
 have HW:=hid hw;have HB:=hid hB;have hlt:=hw.lt;obtain⟨ba,bc,rfl,_⟩:=hB.shape;have hna:¬v.ownBlock=some a:=fun e=>by have:=(hw.own.lt a e).1;omega
 have x0:=hw.c;have f0:=hw.fr;clear hw hB;have HLN:Hid ((ints l).length+(ints b).length<=4294967296):=hid (by rw[aD,aD];omega);have HI:Hid (ints l++ints b=ints (l++b)):=hid (by simp[ints]);go_enter Tryz.func130,Tryz.ntmps130
 go_wp2_with (at_builtin;go_loud (refine aG Tryz.u8s _ _ rfl (a+1) v (.slice ba b.length bc) (ints l) (ints b) rfl rfl HW.out.own HB.out.rd (by decide) HLN.out (by omega) rfl ?_;intro v2 w2 hown2 hgr2 hat2 hnil2 hbel2;obtain⟨a2,c2,rfl⟩:=hown2.shape;generalize (ints l++ints b).length=n2 at *;have HO2:=hid hown2;have G2:=hid hgr2;have A2:=hid hat2;have x2:=(Kept.eX hgr2).cell x0 hna;have f2:w2.frozen? ⟨a,0,none⟩=false:=(by rw[(Kept.eX hgr2).frozen (a:=⟨a,0,none⟩) hlt hna];exact f0);clear hown2 hgr2 hat2 hnil2 hbel2 x0 f0))
 refine bodyPost_end (v:=.tuple #[]) (by simp[results,Tryz.results130,go_sem]) rfl ?_;exact⟨rfl,_,HW.out.put (Below.refl _ _) G2.out (HI.out ▸ HO2.out) A2.out⟩

theorem zY (a:Nat)(v:Value)(l:List Nat)(s:ByteArray)(w:World)(hw:eA w a v l)(hl:l.length+9+s.size<=1000000) :
  Calls Tryz.prog 86 #[.pointer (some ⟨a,0,none⟩),.string s] w fun e w'=>e = .returned (.tuple #[]) /\ ∃v',eA w' a v' (l++(aC s.size++fE s))/\fP w w' a v v':=by
 have HW:=hid hw;have hlt:=hw.lt;have HLL:=hid hl;have hs:(s.size:Int)<=1000000:=by omega
 clear hw hl;go_enter Tryz.func86,Tryz.ntmps86;go_wp2_with fail;have W1:=hid (HW.out.below ((Below.refl _ _).alloc (Nat.le_refl _) (.cells #[.int .u64 (s.size:Int)] 50)));have B1:Hid (Below w.heap.size w (w.alloc (.cells #[.int .u64 (s.size:Int)] 50))):=hid ((Below.refl _ _).alloc (Nat.le_refl _) _);refine(vO a v _ l [s.size] _ W1.out (Reads.one _ _ _ _) (by simp;omega) (fun b hb=>by
  simp only[Value.ownBlock]at hb;obtain rfl:=Option.some.inj hb;exact⟨by omega,fun e=>by have:=(HW.out.own.lt _ e).2;omega⟩) (by have:=HLL.out;simp only[List.length_cons,List.length_nil];omega)).mono ?_
 rintro e w2 ⟨rfl,v2,hw2,hg2⟩;have W2:Hid (eA w2 a v2 (l++aC s.size)):=hid (by simpa [aE] using hw2);have G2:Hid (fP w w2 a v v2):=hid (fP.aQ B1.out hg2 HW.out);clear hw2 hg2 W1 B1;have TS:Hid (s.size<=2097152):=hid (by have:=HLL.out;omega)
 go_wp2_with (refine nI rfl 9 22 5 _ rfl Tryz.underlying9 Tryz.underlying22 Tryz.underlying5 _ rfl TS.out ?_;intro dv w3 hB3 hb3 hob3;have HB3:=hid hB3;have B3:=hid hb3;clear hB3 hb3 hob3)
 refine(aJe a v2 dv _ _ w3 (W2.out.below B3.out) HB3.out (by have:=HLL.out;have h9:=bB (n:=s.size) (by omega);rw[List.length_append,cO];omega)).mono ?_;rintro e w4 ⟨rfl,v4,hw4,hg4⟩;have W4:=hid hw4;have G4:Hid (fP w w4 a v v4):=hid (G2.out.trans (fP.aQ B3.out hg4 W2.out));clear hw4 hg4;go_wp2_with fail;refine bodyPost_end (v:=.tuple #[]) (by simp[results,Tryz.results86,go_sem]) rfl ?_;exact⟨rfl,_,by rw[<- List.append_assoc];exact W4.out,G4.out⟩

theorem jJ (f t:Int)(w:World):Calls Tryz.prog 260 #[.agg #[.int .i64 f,.int .i64 t]] w fun e w'=>e = .returned (.bool (fQ ⟨f,t⟩))/\Below w.heap.size w w':=by
 by_cases h1:0<=f
 ·by_cases h2:f<t
  ·by_cases h3:t<=1125899906842624
   ·have HE:Hid (fQ ⟨f,t⟩=true):=hid (by unfold fQ;simp[h1,h2,h3]);go_enter Tryz.func260,Tryz.ntmps260;go_wp2_with fail;go_ret;exact⟨by rw[HE.out];rfl,(Below.refl _ _).alloc (Nat.le_refl _) _⟩
   ·have HE:Hid (fQ ⟨f,t⟩=false):=hid (by unfold fQ;simp[h3]);go_enter Tryz.func260,Tryz.ntmps260;go_wp2_with fail;go_ret;exact⟨by rw[HE.out];rfl,(Below.refl _ _).alloc (Nat.le_refl _) _⟩
  ·have HE:Hid (fQ ⟨f,t⟩=false):=hid (by unfold fQ;simp[h2]);go_enter Tryz.func260,Tryz.ntmps260;go_wp2_with fail;go_ret;exact⟨by rw[HE.out];rfl,(Below.refl _ _).alloc (Nat.le_refl _) _⟩
 ·have HE:Hid (fQ ⟨f,t⟩=false):=hid (by unfold fQ;simp[h1]);go_enter Tryz.func260,Tryz.ntmps260;go_wp2_with fail;go_ret;exact⟨by rw[HE.out];rfl,(Below.refl _ _).alloc (Nat.le_refl _) _⟩
theorem iV {w w1 w2:World}(h:Below w.heap.size w w1)(h2:Below w1.drew.heap.size w1.drew w2):Below w.heap.size w w2 :=
 h.trans (((Below.refl _ w1).drew.trans h2).mono h.size)
def endOf (l:List aO):Nat->Int
 | 0=>0
 | k+1=>(l.getD k ⟨0,0⟩).t
theorem uR (l:List aO)(a:Option Addr)(n c:Nat)(w:World)(hr:aM w 2 (.slice a n c) (l.map spV))(hln:l.length=n)(hl:n<=maxLen) :
  Calls Tryz.prog 191 #[.slice a n c] w fun e w'=>e = .returned (.int .i64 (bI l))/\Below w.heap.size w w':=by
 unfold maxLen at hl;have HR:=hid hr;have HL:=hid hln;clear hr hln;by_cases h32:n<=32
 ·have b1:¬(32:Int)<(n:Int):=by omega
  have HE:Hid (bI l=if rowE 0 l then 0 else 2):=hid (by unfold bI;rw[if_neg (by have:=HL.out;omega)]);go_enter Tryz.func191,Tryz.ntmps191;go_wp2_with fail
  go_loopw [3] (fun i wr=>∃(j:Nat),i = .int .i64 j/\j<=n/\rowE 0 l=rowE (endOf l j) (l.drop j)/\Below w.heap.size w wr) (fun i _=>n-(intOf i).toNat)
  case atStart=>exact⟨0,rfl,Nat.zero_le _,rfl,Below.refl _ _⟩
  case round =>
   obtain⟨j,rfl,hj,hrow,hb⟩:=hrel;have HB:=hid hb;have HW:=hid hrow;clear hb hrow;by_cases hlt:j<n
   ·have hjl:j<l.length:=by have:=HL.out;omega
    obtain⟨b,o,rfl,hbl,x0,x1⟩:=HR.out.sp hjl;have HBL:Hid (b<wr.heap.size):=hid (Nat.lt_of_lt_of_le hbl HB.out.size);have x0:=aP HB.out x0 hbl;have x1:=aP HB.out x1 hbl;have HD:Hid (rowE 0 l=(fQ l[j]&&decide (endOf l j<=l[j].f)&&rowE l[j].t (l.drop (j+1)))):=hid (by rw[HW.out,qM hjl]);have HN:Hid (endOf l (j+1)=l[j].t):=hid (by simp[endOf,List.getD_eq_getElem?_getD,hjl]);have HP:Hid (∀k,j=k+1 -> ∃en,endOf l j=en/\wr.cell? ⟨b,o+k*2+1,none⟩=some (.int .i64 en)):=hid fun k hk=>by
     subst hk;obtain⟨b',o',e',hbl',_,z1⟩:=HR.out.sp (show k<l.length by omega);cases e';exact⟨_,rfl,by simpa [endOf,List.getD_eq_getElem?_getD,show k<l.length by omega] using aP HB.out z1 hbl'⟩
    generalize l[j]=s at x0 x1 HD HN;obtain⟨f,t⟩:=s;simp only at x0 x1 HD HN;clear hbl;cases hok:fQ ⟨f,t⟩ with
    | true =>
     by_cases hj0:j=0
     ·subst hj0;have hf0:0<=f:=by simp only[fQ,Bool.and_eq_true,decide_eq_true_eq]at hok;exact hok.1.1
      have HD2:Hid (rowE 0 l=rowE (endOf l 1) (l.drop 1)):=hid (by rw[HD.out,HN.out,hok];simp[endOf,hf0]);clear hf0 HP;have z0:((0:Nat):Int)=0:=rfl;have hkd:decide ((0:Int)<((0:Nat):Int))=false:=rfl;rw[Nat.zero_mul,Nat.add_zero]at x0 x1;go_wp2_with fail;have HQ:∀w1:World,Below wr.drew.heap.size wr.drew w1->(w1.cell? ⟨b,o,none⟩=some (.int .i64 f)/\w1.cell? ⟨b,o+1,none⟩=some (.int .i64 t)):=fun w1 hb=>⟨Below.at hb (show wr.drew.cell? _=_ from x0) (show b<wr.heap.size from HBL.out),Below.at hb (show wr.drew.cell? _=_ from x1) (show b<wr.heap.size from HBL.out)⟩;refine dE [0,0,3,7,15,31,63,127,255,511,1023,1023,4095,8191,16383,1023,1023,66559,230399,492543,1016831,2097151,4194303,8388607] 2096128 (fun v=>v.cell? ⟨b,o,none⟩=some (.int .i64 f)/\v.cell? ⟨b,o+1,none⟩=some (.int .i64 t)) (by kernel_rfl) ?_;refine bQ [0,1,2,3] (by kernel_rfl) (L:=bm 24 15) (by kernel_rfl) (f':=20) rfl (fun _ _ _ _ h=>h) (fun v q ⟨y0,y1⟩=>⟨aR y0 q,aR y1 q⟩) (.inr ⟨x0,x1⟩) ?_;simp only[sF,sL]
      iterate 4 (first|(refine cK _ (by rfl) (fun w' hs=>by obtain⟨y0,y1⟩:=hs;go_simp;try with_reducible rfl) rfl ?_;simp only[Act.put,sA])|(refine cA _ (by rfl) (fun w'=>by go_simp;try with_reducible rfl) ?_;simp only[Act.put,sA]))
      refine cP ?_;refine fL 4 (by kernel_rfl) (L:=bm 24 31) (by kernel_rfl) ?_;simp only[sL];go_wp2_with fail;refine(jJ f t _).mono ?_;rintro e w1 ⟨rfl,hb1⟩;rw[hok];have BB:Hid (Below w.heap.size w w1):=hid (iV HB.out hb1);have HSQ:=HQ w1 hb1;clear hb1;go_wp2_with fail;refine cS nofun ?_;refine bQ [5,6,7,8,9,10,11,12,13,14,15,16,17,18,19,20,21,22,23] (by kernel_rfl) (L:=bm 24 16777215) (by kernel_rfl) (f':=0) rfl (fun _ _ _ _ h=>h) (fun v q ⟨y0,y1⟩=>⟨aR y0 q,aR y1 q⟩) (.inr HSQ) ?_;simp only[sF,sL]
      iterate 19 (first|(refine cK _ (by rfl) (fun w' hs=>by obtain⟨y0,y1⟩:=hs;go_simp;try with_reducible rfl) rfl ?_;simp only[Act.put,sA])|(refine cA _ (by rfl) (fun w'=>by go_simp;try with_reducible rfl) ?_;simp only[Act.put,sA])|(refine fD (by rfl) ?_;simp only[Act.put,sA]))
      refine cP ?_;refine eM (by kernel_rfl) ?_;go_wp2_with fail
      go_roundw
      case rel=>exact⟨1,by first|rfl|go_num,by omega,HD2.out,BB.out⟩
      all_goals (show n-((1:Nat):Int).toNat<n-_;simp only[intOf];omega)
     ·obtain⟨k,hk⟩:∃k,j=k+1:=⟨j-1,by omega⟩;obtain⟨en,hen',z1⟩:=HP.out k hk;have HEN:=hid hen';clear hen' HP;have hsub:IntKind.i64.wrap ((j:Int)-1)=(k:Int):=by rw[IntKind.wrap_i64];omega
      have hkn:(k:Int)<(n:Int):=by omega
      have hk1:(0:Int)<(j:Int):=by omega
      have hkd:decide ((0:Int)<(j:Int))=true:=decide_eq_true hk1;have hkd2:decide (0<j)=true:=decide_eq_true (by omega);clear hk hj0;by_cases hen:f<en
      ·have hde:decide (f<en)=true:=decide_eq_true hen;have HE2:Hid (bI l=2):=hid (by rw[HE.out,HD.out,HEN.out,hok,decide_eq_false (show ¬en<=f by omega)];rfl);go_wp2_with fail;have HQ:∀w1:World,Below wr.drew.heap.size wr.drew w1->(w1.cell? ⟨b,o+j*2,none⟩=some (.int .i64 f)/\w1.cell? ⟨b,o+j*2+1,none⟩=some (.int .i64 t)/\w1.cell? ⟨b,o+k*2+1,none⟩=some (.int .i64 en)):=fun w1 hb=>⟨Below.at hb (show wr.drew.cell? _=_ from x0) (show b<wr.heap.size from HBL.out),Below.at hb (show wr.drew.cell? _=_ from x1) (show b<wr.heap.size from HBL.out),Below.at hb (show wr.drew.cell? _=_ from z1) (show b<wr.heap.size from HBL.out)⟩;refine dE [0,0,3,7,15,31,63,127,255,511,1023,1023,4095,8191,16383,1023,1023,66559,230399,492543,1016831,2097151,4194303,8388607] 2096128 (fun v=>v.cell? ⟨b,o+j*2,none⟩=some (.int .i64 f)/\v.cell? ⟨b,o+j*2+1,none⟩=some (.int .i64 t)/\v.cell? ⟨b,o+k*2+1,none⟩=some (.int .i64 en)) (by kernel_rfl) ?_;refine bQ [0,1,2,3] (by kernel_rfl) (L:=bm 24 15) (by kernel_rfl) (f':=20) rfl (fun _ _ _ _ h=>h) (fun v q ⟨y0,y1,y2⟩=>⟨aR y0 q,aR y1 q,aR y2 q⟩) (.inr ⟨x0,x1,z1⟩) ?_;simp only[sF,sL]
       iterate 4 (first|(refine cK _ (by rfl) (fun w' hs=>by obtain⟨y0,y1,y2⟩:=hs;go_simp;try with_reducible rfl) rfl ?_;simp only[Act.put,sA])|(refine cA _ (by rfl) (fun w'=>by go_simp;try with_reducible rfl) ?_;simp only[Act.put,sA]))
       refine cP ?_;refine fL 4 (by kernel_rfl) (L:=bm 24 31) (by kernel_rfl) ?_;simp only[sL];go_wp2_with fail;refine(jJ f t _).mono ?_;rintro e w1 ⟨rfl,hb1⟩;rw[hok];have BB:Hid (Below w.heap.size w w1):=hid (iV HB.out hb1);have HSQ:=HQ w1 hb1;clear hb1;go_wp2_with fail;refine cS nofun ?_;refine bQ [5,6,7,8,9,10,11,12,13,14,15,16,17,18,19,20,21,22,23] (by kernel_rfl) (L:=bm 24 16777215) (by kernel_rfl) (f':=0) rfl (fun _ _ _ _ h=>h) (fun v q ⟨y0,y1,y2⟩=>⟨aR y0 q,aR y1 q,aR y2 q⟩) (.inr HSQ) ?_;simp only[sF,sL]
       iterate 19 (first|(refine cK _ (by rfl) (fun w' hs=>by obtain⟨y0,y1,y2⟩:=hs;go_simp;try with_reducible rfl) rfl ?_;simp only[Act.put,sA])|(refine cA _ (by rfl) (fun w'=>by go_simp;try with_reducible rfl) ?_;simp only[Act.put,sA])|(refine fD (by rfl) ?_;simp only[Act.put,sA]))
       refine cP ?_;refine eM (by kernel_rfl) ?_;go_wp2_with fail;go_ret;exact⟨by rw[HE2.out];rfl,BB.out⟩
      ·have hde:decide (f<en)=false:=decide_eq_false hen;have HD2:Hid (rowE 0 l=rowE (endOf l (j+1)) (l.drop (j+1))):=hid (by rw[HD.out,HN.out,HEN.out,hok,decide_eq_true (show en<=f by omega)];rfl);go_wp2_with fail;have HQ:∀w1:World,Below wr.drew.heap.size wr.drew w1->(w1.cell? ⟨b,o+j*2,none⟩=some (.int .i64 f)/\w1.cell? ⟨b,o+j*2+1,none⟩=some (.int .i64 t)/\w1.cell? ⟨b,o+k*2+1,none⟩=some (.int .i64 en)):=fun w1 hb=>⟨Below.at hb (show wr.drew.cell? _=_ from x0) (show b<wr.heap.size from HBL.out),Below.at hb (show wr.drew.cell? _=_ from x1) (show b<wr.heap.size from HBL.out),Below.at hb (show wr.drew.cell? _=_ from z1) (show b<wr.heap.size from HBL.out)⟩;refine dE [0,0,3,7,15,31,63,127,255,511,1023,1023,4095,8191,16383,1023,1023,66559,230399,492543,1016831,2097151,4194303,8388607] 2096128 (fun v=>v.cell? ⟨b,o+j*2,none⟩=some (.int .i64 f)/\v.cell? ⟨b,o+j*2+1,none⟩=some (.int .i64 t)/\v.cell? ⟨b,o+k*2+1,none⟩=some (.int .i64 en)) (by kernel_rfl) ?_;refine bQ [0,1,2,3] (by kernel_rfl) (L:=bm 24 15) (by kernel_rfl) (f':=20) rfl (fun _ _ _ _ h=>h) (fun v q ⟨y0,y1,y2⟩=>⟨aR y0 q,aR y1 q,aR y2 q⟩) (.inr ⟨x0,x1,z1⟩) ?_;simp only[sF,sL]
       iterate 4 (first|(refine cK _ (by rfl) (fun w' hs=>by obtain⟨y0,y1,y2⟩:=hs;go_simp;try with_reducible rfl) rfl ?_;simp only[Act.put,sA])|(refine cA _ (by rfl) (fun w'=>by go_simp;try with_reducible rfl) ?_;simp only[Act.put,sA]))
       refine cP ?_;refine fL 4 (by kernel_rfl) (L:=bm 24 31) (by kernel_rfl) ?_;simp only[sL];go_wp2_with fail;refine(jJ f t _).mono ?_;rintro e w1 ⟨rfl,hb1⟩;rw[hok];have BB:Hid (Below w.heap.size w w1):=hid (iV HB.out hb1);have HSQ:=HQ w1 hb1;clear hb1;go_wp2_with fail;refine cS nofun ?_;refine bQ [5,6,7,8,9,10,11,12,13,14,15,16,17,18,19,20,21,22,23] (by kernel_rfl) (L:=bm 24 16777215) (by kernel_rfl) (f':=0) rfl (fun _ _ _ _ h=>h) (fun v q ⟨y0,y1,y2⟩=>⟨aR y0 q,aR y1 q,aR y2 q⟩) (.inr HSQ) ?_;simp only[sF,sL]
       iterate 19 (first|(refine cK _ (by rfl) (fun w' hs=>by obtain⟨y0,y1,y2⟩:=hs;go_simp;try with_reducible rfl) rfl ?_;simp only[Act.put,sA])|(refine cA _ (by rfl) (fun w'=>by go_simp;try with_reducible rfl) ?_;simp only[Act.put,sA])|(refine fD (by rfl) ?_;simp only[Act.put,sA]))
       refine cP ?_;refine eM (by kernel_rfl) ?_;go_wp2_with fail
       go_roundw
       case rel=>exact⟨j+1,by first|rfl|go_num,by omega,HD2.out,BB.out⟩
       all_goals (show n-((j+1:Nat):Int).toNat<n-_;simp only[intOf];omega)
    | false =>
     have HE2:Hid (bI l=2):=hid (by rw[HE.out,HD.out,hok];rfl);go_wp2_with fail;have HQ:∀w1:World,Below wr.drew.heap.size wr.drew w1->(w1.cell? ⟨b,o+j*2,none⟩=some (.int .i64 f)/\w1.cell? ⟨b,o+j*2+1,none⟩=some (.int .i64 t)):=fun w1 hb=>⟨Below.at hb (show wr.drew.cell? _=_ from x0) (show b<wr.heap.size from HBL.out),Below.at hb (show wr.drew.cell? _=_ from x1) (show b<wr.heap.size from HBL.out)⟩;refine dE [0,0,3,7,15,31,63,127,255,511,1023,1023,4095,8191,16383,1023,1023,66559,230399,492543,1016831,2097151,4194303,8388607] 2096128 (fun v=>v.cell? ⟨b,o+j*2,none⟩=some (.int .i64 f)/\v.cell? ⟨b,o+j*2+1,none⟩=some (.int .i64 t)) (by kernel_rfl) ?_;refine bQ [0,1,2,3] (by kernel_rfl) (L:=bm 24 15) (by kernel_rfl) (f':=20) rfl (fun _ _ _ _ h=>h) (fun v q ⟨y0,y1⟩=>⟨aR y0 q,aR y1 q⟩) (.inr ⟨x0,x1⟩) ?_;simp only[sF,sL]
     iterate 4 (first|(refine cK _ (by rfl) (fun w' hs=>by obtain⟨y0,y1⟩:=hs;go_simp;try with_reducible rfl) rfl ?_;simp only[Act.put,sA])|(refine cA _ (by rfl) (fun w'=>by go_simp;try with_reducible rfl) ?_;simp only[Act.put,sA]))
     refine cP ?_;refine fL 4 (by kernel_rfl) (L:=bm 24 31) (by kernel_rfl) ?_;simp only[sL];go_wp2_with fail;refine(jJ f t _).mono ?_;rintro e w1 ⟨rfl,hb1⟩;rw[hok];have BB:Hid (Below w.heap.size w w1):=hid (iV HB.out hb1);have HSQ:=HQ w1 hb1;clear hb1;go_wp2_with fail;refine cS nofun ?_;refine bQ [5,6,7,8,9,10,11,12,13,14,15,16,17,18,19,20,21,22,23] (by kernel_rfl) (L:=bm 24 16777215) (by kernel_rfl) (f':=0) rfl (fun _ _ _ _ h=>h) (fun v q ⟨y0,y1⟩=>⟨aR y0 q,aR y1 q⟩) (.inr HSQ) ?_;simp only[sF,sL]
     iterate 19 (first|(refine cK _ (by rfl) (fun w' hs=>by obtain⟨y0,y1⟩:=hs;go_simp;try with_reducible rfl) rfl ?_;simp only[Act.put,sA])|(refine cA _ (by rfl) (fun w'=>by go_simp;try with_reducible rfl) ?_;simp only[Act.put,sA])|(refine fD (by rfl) ?_;simp only[Act.put,sA]))
     refine cP ?_;refine eM (by kernel_rfl) ?_;go_wp2_with fail;go_ret;exact⟨by rw[HE2.out];rfl,BB.out⟩
   ·obtain rfl:j=n:=by omega
    have HE2:Hid (bI l=0):=hid (by rw[HE.out,HW.out,List.drop_eq_nil_of_le (by have:=HL.out;omega)];rfl);go_wp2_with fail;go_ret;exact⟨by rw[HE2.out];rfl,HB.out⟩
 ·have b1:(32:Int)<(n:Int):=by omega
  have HE:Hid (bI l=21):=hid (by unfold bI;rw[if_pos (by have:=HL.out;omega)]);go_enter Tryz.func191,Tryz.ntmps191;go_wp2_with fail;go_ret;exact⟨by rw[HE.out];rfl,Below.refl _ _⟩

theorem gA {P:Program}{t:TypeId}{z:Value}{n m:Nat}(h:(P.info? t).map (fun i=>(i.zero,i.size,i.bytes))=some (some z,n,m)):∃i,P.info? t=some i/\i.zero=some z/\i.size=n/\i.bytes=m:=by
 cases e:P.info? t with
 | none=>rw[e]at h;cases h
 | some i =>
  rw[e]at h;simp only[Option.map_some,Option.some.injEq,Prod.mk.injEq]at h;exact⟨i,rfl,h.1,h.2.1,h.2.2⟩
theorem aMN:cM Tryz.prog 66 324 2 16:=by
 obtain⟨i0,hi,hz0,hz1,hz2⟩:=gA (show (Tryz.prog.info? 324).map (fun i=>(i.zero,i.size,i.bytes))=some (some (.agg #[.int .i64 0,.int .i64 0]),2,16) by kernel_rfl);exact⟨Tryz.underlying66,⟨i0,_,hi,hz0,hz1,hz2,rfl⟩,by decide,by decide⟩
theorem aMO:aAd Tryz.prog 324:=fun i z hi hz=>by
 obtain⟨i0,h1,h2,_,_⟩:=gA (show (Tryz.prog.info? 324).map (fun i=>(i.zero,i.size,i.bytes))=some (some (.agg #[.int .i64 0,.int .i64 0]),2,16) by kernel_rfl);rw[hi]at h1;cases h1;rw[hz]at h2;cases h2;intro x hx;simp[Value.cells]at hx
theorem aKn (l:List aO):No8 (l.map spV).flatten:=by
 intro x hx;obtain⟨r,hr,hx⟩:=List.mem_flatten.1 hx;obtain⟨p,hp,rfl⟩:=List.mem_map.1 hr;simp[spV]at hx
theorem aKo (l:List aO):∀r ∈ l.map spV,∀u ∈ r,u.oneCell'=true:=fun r hr u hu=>by
 obtain⟨p,hp,rfl⟩:=List.mem_map.1 hr;simp only[spV,List.mem_cons,List.not_mem_nil,or_false]at hu;rcases hu with rfl|rfl<;>rfl
theorem aIX (l:List aO):∀r ∈ l.map spV,r.length=2:=fun r hr=>by
 obtain⟨p,hp,rfl⟩:=List.mem_map.1 hr;rfl
theorem oW (v:Value)(l:List aO)(w:World)(h:aM w 2 v (l.map spV))(hl:l.length<=2147483648) :
  Calls Tryz.prog 342 #[v] w fun e w'=>∃a' n' c',e = .returned (.slice a' n' c')/\Below w.heap.size w w':=by
 have H:=hid h;have HL:=hid hl;obtain⟨a,c,rfl,_⟩:=h.shape;clear hl;cases a with
 | none =>
  clear h;generalize (l.map spV).length=q;have h0:=fun w=>Lib.run_eql_slice_nil (P:=Tryz.prog) w 66 324 none q c 0 0 Tryz.underlying66;clear H;go_enter Tryz.func342,Tryz.ntmps342;go_wp2_with fail;go_ret;exact⟨_,_,_,rfl,Below.refl _ _⟩
 | some ad =>
  have h0:=fun w=>Lib.run_eql_slice_nil (P:=Tryz.prog) w 66 324 (some ad) (l.map spV).length c 0 0 Tryz.underlying66;clear h;generalize hq:(l.map spV).length=q at *
  have HQ:=hid hq;clear hq;go_enter Tryz.func342,Tryz.ntmps342
  go_wp2_with (at_builtin;go_loud (refine lN aMN _ _ rfl (.slice (some ⟨w.heap.size,0,none⟩) 0 0) (.slice (some ad) q c) [] (l.map spV) rfl rfl (lB.made (heap_alloc_new _ _)) (H.out.below ((Below.refl _ _).alloc (Nat.le_refl _) _)) (aIX l) (aKo l) (aKn l) aMO (by have:=HL.out;have:=HQ.out;simp only[List.length_nil,List.length_map]at *;omega) rfl ?_;intro v2 w2 ho2 hg2 hat2;have G2:=hid hg2;obtain⟨a2,c2,rfl,_⟩:=ho2.shape;clear hg2 hat2 ho2))
  go_ret;exact⟨_,_,_,rfl,((Below.refl _ _).alloc (Nat.le_refl _) _).grown G2.out (by simp) (fun g hg=>by obtain rfl:=Option.some.inj hg;exact Nat.le_refl _)⟩
def bJ (l:List aO):Int:=if bI l=0 then (if 0<l.length/\604800<endOf l l.length then 2 else 0) else bI l
theorem qF (f:Fn)(xs ys:Array Value)(w:World):Calls Tryz.prog 343 #[.func f xs ys] w fun e w'=>∃p,e = .returned (.pointer p)/\Below w.heap.size w w':=by
 go_enter Tryz.func343,Tryz.ntmps343;go_wp2_with fail;go_ret;exact⟨_,rfl,by first|exact Below.refl _ _|exact(Below.refl _ _).alloc (Nat.le_refl _) _⟩
theorem yR (l:List aO)(a:Option Addr)(n c:Nat)(w:World)(hr:aM w 2 (.slice a n c) (l.map spV))(hln:l.length=n)(hl:n<=2147483648) :
  Calls Tryz.prog 258 #[.slice a n c] w fun e w'=>∃p,e = .returned (.tuple #[.pointer p,.int .i64 (bI l)])/\Below w.heap.size w w':=by
 have HR:=hid hr;have C:=hid (uG l a n c w hr hln (by unfold maxLen;omega));have D:=hid fun v hb=>oW (.slice a n c) l v (hr.below hb) (by omega);clear hr hln;by_cases h0:bI l=0
 ·rw[h0]at C;have H0:=hid h0;clear h0;go_enter Tryz.func258,Tryz.ntmps258;go_wp2_with fail;refine C.out.mono ?_;rintro e w1 ⟨rfl,hb1⟩;have B1:=hid hb1;clear hb1;go_wp2_with fail;refine(D.out _ B1.out).mono ?_;rintro e w2 ⟨a2,n2,c2,rfl,hb2⟩;have B2:Hid (Below w.heap.size w w2):=hid (B1.out.trans (hb2.mono B1.out.size));clear hb2;go_wp2_with fail
  go_ret2
  exact⟨some ⟨w2.heap.size,0,none⟩,by rw[H0.out];rfl,B2.out.alloc B2.out.size _⟩
 ·generalize bI l=r at *
  have hne:(r==0)=false:=by simp[h0]
  have hne':(r != 0)=true:=by simp[h0]
  go_enter Tryz.func258,Tryz.ntmps258;go_wp2_with fail;refine C.out.mono ?_;rintro e w1 ⟨rfl,hb1⟩;have B1:=hid hb1;clear hb1;go_wp2_with fail
  go_ret2
  exact⟨_,rfl,B1.out⟩
theorem bD {w w1 w2:World}(h:Below w.heap.size w w1)(h2:Below w1.heap.size w1 w2):Below w.heap.size w w2:=h.trans (h2.mono h.size)
theorem yX (l:List aO)(a:Option Addr)(n c:Nat)(w:World)(hr:aM w 2 (.slice a n c) (l.map spV))(hln:l.length=n)(hl:n<=2147483648) :
  Calls Tryz.prog 257 #[.slice a n c] w fun e w'=>∃p,e = .returned (.tuple #[.pointer p,.int .i64 (bJ l)])/\Below w.heap.size w w':=by
 have HR:=hid hr;have HL:=hid hln;have C:=hid (uG l a n c w hr hln (by unfold maxLen;omega));have D:=hid fun v hb=>oW (.slice a n c) l v (hr.below hb) (by omega);clear hr hln;by_cases h0:bI l=0
 ·rw[h0]at C;have HW:Hid (bJ l=if 0<n/\604800<endOf l n then 2 else 0):=hid (by unfold bJ;rw[if_pos h0,HL.out]);clear h0;by_cases hn:0<n
  ·obtain⟨k,hk⟩:∃k,n=k+1:=⟨n-1,by omega⟩;obtain⟨b,o,rfl,hbl,x0,x1⟩:=HR.out.sp (show k<l.length by have:=HL.out;omega);have HE:Hid (endOf l n=(l[k]'(by have:=HL.out;omega)).t):=hid (by subst hk;simp[endOf,List.getD_eq_getElem?_getD,show k<l.length by have:=HL.out;omega]);generalize (l[k]'(by have:=HL.out;omega)).t=t at x1 HE;have hsub:IntKind.i64.wrap ((n:Int)-1)=(k:Int):=by rw[IntKind.wrap_i64];omega
   have hkn:(k:Int)<(n:Int):=by omega
   have hn0:(0:Int)<(n:Int):=by omega
   have X1:=hid x1;have HBL:=hid hbl;clear x0 x1 hbl hk;by_cases ht:604800<t
   ·have HE2:Hid (bJ l=2):=hid (by rw[HW.out,HE.out,if_pos ⟨hn,ht⟩]);go_enter Tryz.func257,Tryz.ntmps257;go_wp2_with fail;refine C.out.mono ?_;rintro e w1 ⟨rfl,hb1⟩;have B1:=hid hb1;clear hb1;have x1:=Below.at B1.out X1.out HBL.out;go_wp2_with fail
    go_ret2
    exact⟨none,by rw[HE2.out];rfl,B1.out⟩
   ·have HE2:Hid (bJ l=0):=hid (by rw[HW.out,HE.out,if_neg (fun h=>ht h.2)]);go_enter Tryz.func257,Tryz.ntmps257;go_wp2_with fail;refine C.out.mono ?_;rintro e w1 ⟨rfl,hb1⟩;have B1:=hid hb1;clear hb1;have x1:=Below.at B1.out X1.out HBL.out;go_wp2_with fail;refine(D.out _ B1.out).mono ?_;rintro e w2 ⟨a2,n2,c2,rfl,hb2⟩;have B2:=hid (bD B1.out hb2);clear hb2;go_wp2_with fail;refine(qF _ _ _ _).mono ?_;rintro e w3 ⟨p3,rfl,hb3⟩;have c0:=Below.at hb3 (show World.cell? _ ⟨w2.heap.size,1,none⟩=some (.pointer none) by go_cell) (by simp);have f0:w3.frozen? ⟨w2.heap.size,1,none⟩=false:=by rw[hb3.frozen (by simp)];simp
    have B3:=hid (dO B2.out hb3);have Z3:Hid (w.heap.size<=w2.heap.size):=hid B2.out.size;clear hb3;go_wp2_with fail
    go_ret2
    exact⟨some ⟨w2.heap.size,0,none⟩,by rw[HE2.out];rfl,B3.out.setCell Z3.out _⟩
  ·have HE2:Hid (bJ l=0):=hid (by rw[HW.out,if_neg (fun h=>hn h.1)]);obtain rfl:n=0:=by omega
   have z0:((0:Nat):Int)=0:=rfl;go_enter Tryz.func257,Tryz.ntmps257;go_wp2_with fail;refine C.out.mono ?_;rintro e w1 ⟨rfl,hb1⟩;have B1:=hid hb1;clear hb1;go_wp2_with fail;refine(D.out _ B1.out).mono ?_;rintro e w2 ⟨a2,n2,c2,rfl,hb2⟩;have B2:=hid (bD B1.out hb2);clear hb2;go_wp2_with fail;refine(qF _ _ _ _).mono ?_;rintro e w3 ⟨p3,rfl,hb3⟩;have c0:=Below.at hb3 (show World.cell? _ ⟨w2.heap.size,1,none⟩=some (.pointer none) by go_cell) (by simp);have f0:w3.frozen? ⟨w2.heap.size,1,none⟩=false:=by rw[hb3.frozen (by simp)];simp
   have B3:=hid (dO B2.out hb3);have Z3:Hid (w.heap.size<=w2.heap.size):=hid B2.out.size;clear hb3;go_wp2_with fail
   go_ret2
   exact⟨some ⟨w2.heap.size,0,none⟩,by rw[HE2.out];rfl,B3.out.setCell Z3.out _⟩
 ·have HE2:Hid (bJ l=bI l):=hid (by unfold bJ;rw[if_neg h0]);rw[HE2.out];clear HE2;generalize bI l=r at *
  have hne:(r==0)=false:=by simp[h0]
  have hne':(r != 0)=true:=by simp[h0]
  go_enter Tryz.func257,Tryz.ntmps257;go_wp2_with fail;refine C.out.mono ?_;rintro e w1 ⟨rfl,hb1⟩;have B1:=hid hb1;clear hb1;go_wp2_with fail
  go_ret2
  exact⟨none,rfl,B1.out⟩

structure fC where
 o:Int
 w:List aO
 c:List aO
deriving DecidableEq
def bV (k:fC):Int:=if k.o<0\/604800<=k.o then 2 else if bJ k.w≠0 then bJ k.w else bI k.c
structure cE (w:World)(k:fC)(wa:Option Addr)(wn wc:Nat)(ca:Option Addr)(cn cc:Nat):Prop where
 rw:aM w 2 (.slice wa wn wc) (k.w.map spV)
 rc:aM w 2 (.slice ca cn cc) (k.c.map spV)
 lw:k.w.length=wn
 lc:k.c.length=cn
 sw:wn<=2147483648
 sc:cn<=2147483648
theorem cE.below {w w':World}{k:fC}{wa:Option Addr}{wn wc:Nat}{ca:Option Addr}{cn cc:Nat}(h:cE w k wa wn wc ca cn cc)(hb:Below w.heap.size w w'):cE w' k wa wn wc ca cn cc:=⟨h.rw.below hb,h.rc.below hb,h.lw,h.lc,h.sw,h.sc⟩
theorem uA (k:fC)(wa:Option Addr)(wn wc:Nat)(ca:Option Addr)(cn cc:Nat)(w:World)(h:cE w k wa wn wc ca cn cc) :
  Calls Tryz.prog 187 #[.agg #[.int .i64 k.o,.slice wa wn wc,.slice ca cn cc]] w fun e w'=>∃p,e = .returned (.tuple #[.pointer p,.int .i64 (bV k)])/\Below w.heap.size w w':=by
 have C:=hid fun v hb=>yX k.w wa wn wc v (h.below hb).rw h.lw h.sw;have D:=hid fun v hb=>yR k.c ca cn cc v (h.below hb).rc h.lc h.sc;obtain⟨o,lw,lc⟩:=k;simp only at C D ⊢;clear h;have HK:Hid (bV ⟨o,lw,lc⟩=if o<0\/604800<=o then 2 else if bJ lw≠0 then bJ lw else bI lc):=hid rfl;have AL:Hid (∀o1:Obj,Below w.heap.size w (w.alloc o1)):=hid fun o1=>(Below.refl _ _).alloc (Nat.le_refl _) _;by_cases h1:o<0
 ·have HE:Hid (bV ⟨o,lw,lc⟩=2):=hid (by rw[HK.out,if_pos (.inl h1)]);go_enter Tryz.func187,Tryz.ntmps187;go_wp2_with fail
  go_ret2
  first|exact⟨none,by rw[HE.out];rfl,AL.out _⟩|exact⟨⟨none,by rw[HE.out];rfl⟩,AL.out _⟩
 ·by_cases h2:604800<=o
  ·have HE:Hid (bV ⟨o,lw,lc⟩=2):=hid (by rw[HK.out,if_pos (.inr h2)]);go_enter Tryz.func187,Tryz.ntmps187;go_wp2_with fail
   go_ret2
   first|exact⟨none,by rw[HE.out];rfl,AL.out _⟩|exact⟨⟨none,by rw[HE.out];rfl⟩,AL.out _⟩
  ·by_cases h3:bJ lw=0
   ·have HE:Hid (bV ⟨o,lw,lc⟩=bI lc):=hid (by rw[HK.out,if_neg (fun h=>h.elim h1 h2),if_neg (fun h=>h h3)]);rw[h3]at C;rw[HE.out];clear HK HE h3;go_enter Tryz.func187,Tryz.ntmps187;go_wp2_with fail;refine(C.out _ (AL.out _)).mono ?_;rintro e w1 ⟨p1,rfl,hb1⟩;have c0:=Below.at hb1 (show World.cell? _ ⟨w.heap.size,0,none⟩=some (.int .i64 o) by go_cell) (by simp);have c2:=Below.at hb1 (show World.cell? _ ⟨w.heap.size,2,none⟩=some (.slice ca cn cc) by go_cell) (by simp);have B1:=hid (bD (AL.out _) hb1);have L1:Hid (w.heap.size<w1.heap.size):=hid (by have:=hb1.size;simp only[World.size_alloc]at this;omega);clear hb1;have C0:=hid c0;go_wp2_with fail;refine(D.out _ B1.out).mono ?_;rintro e w2 ⟨p2,rfl,hb2⟩;have c0:=Below.at hb2 C0.out L1.out;have B2:=hid (bD B1.out hb2);clear hb2 c2;by_cases h4:bI lc=0
    ·have H4:=hid h4;rw[h4];clear h4;go_wp2_with fail
     go_ret2
     exact⟨some ⟨w2.heap.size,0,none⟩,by rw[H4.out];rfl,B2.out.alloc B2.out.size _⟩
    ·obtain⟨r,hr⟩:∃r,r=bI lc:=⟨_,rfl⟩;rw[<- hr]at h4 ⊢;have H4:=hid hr;have hne:(r==0)=false:=by simp[h4]
     have hne':(r != 0)=true:=by simp[h4]
     clear hr;go_wp2_with fail
     go_ret2
     exact⟨none,by rw[<- H4.out];rfl,B2.out⟩
   ·have HE:Hid (bV ⟨o,lw,lc⟩=bJ lw):=hid (by rw[HK.out,if_neg (fun h=>h.elim h1 h2),if_pos h3]);rw[HE.out];clear HK HE;generalize bJ lw=r at *
    have hne:(r==0)=false:=by simp[h3]
    have hne':(r != 0)=true:=by simp[h3]
    go_enter Tryz.func187,Tryz.ntmps187;go_wp2_with fail;refine(C.out _ (AL.out _)).mono ?_;rintro e w1 ⟨p1,rfl,hb1⟩;have B1:=hid (bD (AL.out _) hb1);clear hb1;go_wp2_with fail
    go_ret2
    first|exact⟨none,rfl,B1.out⟩|exact⟨⟨none,rfl⟩,B1.out⟩
theorem kQ (k:fC)(wa:Option Addr)(wn wc:Nat)(ca:Option Addr)(cn cc:Nat)(w:World)(h:cE w k wa wn wc ca cn cc) :
  Calls Tryz.prog 136 #[.agg #[.int .i64 k.o,.slice wa wn wc,.slice ca cn cc]] w fun e w'=>e = .returned (.int .i64 (bV k))/\Below w.heap.size w w':=by
 have C:=hid fun v hb=>uA k wa wn wc ca cn cc v (h.below hb);clear h;go_enter Tryz.func136,Tryz.ntmps136;go_wp2_with fail;refine(C.out _ ((Below.refl _ _).alloc (Nat.le_refl _) _)).mono ?_;rintro e w1 ⟨p1,rfl,hb1⟩;have B1:=hid (dO (Below.refl _ _) hb1);clear hb1;go_wp2_with fail;go_ret;exact⟨rfl,B1.out⟩

theorem xI:∀ {l:List aO}{e:Int},rowE e l=true -> ∀x ∈ l,e<=x.t
 | [],_,_,x,hx=>by cases hx
 | s::l,e,h,x,hx=>by
  simp only[rowE,fQ,Bool.and_eq_true,decide_eq_true_eq]at h;rcases List.mem_cons.1 hx with rfl|hx
  ·omega
  ·have:=xI h.2 x hx;omega
theorem xJ:∀ {l:List aO}{e:Int},rowE e l=true->l.Pairwise fun a b=>a.t<=b.t
 | [],_,_=>.nil
 | s::l,e,h=>by
  simp only[rowE,Bool.and_eq_true]at h;exact .cons (xI h.2) (xJ h.2)
theorem aAD {l:List aO}(h:bI l=0){j:Nat}(hj:j<l.length):l[j].t<=endOf l l.length:=by
 have hr:rowE 0 l=true:=by
  unfold bI at h;split at h
  ·cases h
  ·split at h
   ·assumption
   ·cases h
 obtain⟨k,hk⟩:∃k,l.length=k+1:=⟨l.length-1,by omega⟩;have hkl:k<l.length:=by omega
 have e:endOf l l.length=l[k].t:=by rw[hk];simp[endOf,List.getD_eq_getElem?_getD,hkl]
 rw[e];by_cases q:j=k
 ·subst q;exact Int.le_refl _
 ·exact List.pairwise_iff_getElem.1 (xJ hr) j k hj hkl (by omega)
theorem aAC {l:List aO}{k:Nat}(hk:k<l.length):endOf l (k+1)=l[k].t:=by simp[endOf,List.getD_eq_getElem?_getD,hk]
theorem wK (l:List aO)(a:Option Addr)(n c:Nat)(w:World)(hr:aM w 2 (.slice a n c) (l.map spV))(hln:l.length=n)(hl:n<=2147483648) :
  Calls Tryz.prog 190 #[.slice a n c] w fun e w'=>e = .returned (.int .i64 (bJ l))/\Below w.heap.size w w':=by
 have HR:=hid hr;have HL:=hid hln;have C:=hid (uR l a n c w hr hln (by unfold maxLen;omega));clear hr hln;by_cases h0:bI l=0
 ·rw[h0]at C;have H0:=hid h0;have HW:Hid (bJ l=if 0<n/\604800<endOf l n then 2 else 0):=hid (by unfold bJ;rw[if_pos h0,HL.out]);clear h0;go_enter Tryz.func190,Tryz.ntmps190;go_wp2_with fail;refine C.out.mono ?_;rintro e w1 ⟨rfl,hb1⟩;have B1:=hid hb1;clear hb1;go_wp2_with fail
  go_loopw [4] (fun i wr=>∃(j:Nat),i = .int .i64 j/\j<=n/\(∀k,k<j -> ∀h:k<l.length,l[k].t<=604800)/\Below w.heap.size w wr) (fun i _=>n-(intOf i).toNat)
  case atStart=>exact⟨0,rfl,Nat.zero_le _,fun k hk=>absurd hk (Nat.not_lt_zero k),B1.out⟩
  case round =>
   obtain⟨j,rfl,hj,hrow,hb⟩:=hrel;have HB:=hid hb;have HS:=hid hrow;clear hb hrow;by_cases hlt:j<n
   ·have hjl:j<l.length:=by have:=HL.out;omega
    obtain⟨b,o,rfl,hbl,_,x1⟩:=HR.out.sp hjl;have x1:=aP HB.out x1 hbl;have HG:Hid (l[j].t<=endOf l n):=hid (by rw[<- HL.out];exact aAD H0.out hjl);have HN:Hid (∀t,l[j].t=t->t<=604800 -> ∀k,k<j+1 -> ∀h:k<l.length,l[k].t<=604800):=hid fun t ht ht2 k hk h=>by
     by_cases q:k=j
     ·subst q;rw[ht];exact ht2
     ·exact HS.out k (by omega) h
    obtain⟨t,ht⟩:∃t,l[j].t=t:=⟨_,rfl⟩;rw[ht]at x1 HG;have HT:=hid ht;clear ht;by_cases hw:604800<t
    ·have HE2:Hid (bJ l=2):=hid (by rw[HW.out,if_pos ⟨by omega,Int.lt_of_lt_of_le hw HG.out⟩]);have hd:decide (604800<t)=true:=decide_eq_true hw;go_wp2_with fail;go_ret;exact⟨by rw[HE2.out];rfl,HB.out⟩
    ·have HS2:=hid (HN.out t HT.out (by omega));have hd:decide (604800<t)=false:=decide_eq_false hw;go_wp2_with fail
     go_roundw
     case rel=>exact⟨j+1,by first|rfl|go_num,by omega,HS2.out,HB.out⟩
     all_goals (show n-((j:Int)+1).toNat<n-((j:Int)).toNat;omega)
   ·obtain rfl:j=n:=by omega
    have HE2:Hid (bJ l=0):=hid (by
     rw[HW.out];refine if_neg fun h=>?_;obtain⟨k,hk⟩:∃k,j=k+1:=⟨j-1,by omega⟩;have hkl:k<l.length:=by have:=HL.out;omega
     have:=HS.out k (by omega) hkl;rw[hk,aAC hkl]at h;omega)
    go_wp2_with fail;go_ret;exact⟨by rw[HE2.out];rfl,HB.out⟩
 ·have HE2:Hid (bJ l=bI l):=hid (by unfold bJ;rw[if_neg h0]);rw[HE2.out];clear HE2;generalize bI l=r at *
  have hne:(r==0)=false:=by simp[h0]
  have hne':(r != 0)=true:=by simp[h0]
  go_enter Tryz.func190,Tryz.ntmps190;go_wp2_with fail;refine C.out.mono ?_;rintro e w1 ⟨rfl,hb1⟩;have B1:=hid hb1;clear hb1;go_wp2_with fail;go_ret;exact⟨rfl,B1.out⟩
theorem pM (k:fC)(wa:Option Addr)(wn wc:Nat)(ca:Option Addr)(cn cc:Nat)(w:World)(h:cE w k wa wn wc ca cn cc) :
  Calls Tryz.prog 140 #[.agg #[.int .i64 k.o,.slice wa wn wc,.slice ca cn cc]] w fun e w'=>e = .returned (.int .i64 (bV k))/\Below w.heap.size w w':=by
 have C:=hid fun v hb=>wK k.w wa wn wc v (h.below hb).rw h.lw h.sw;have D:=hid fun v hb=>uR k.c ca cn cc v (h.below hb).rc h.lc (by have:=h.sc;unfold maxLen;omega);obtain⟨o,lw,lc⟩:=k;simp only at C D ⊢;clear h;have HK:Hid (bV ⟨o,lw,lc⟩=if o<0\/604800<=o then 2 else if bJ lw≠0 then bJ lw else bI lc):=hid rfl;have AL:Hid (∀o1:Obj,Below w.heap.size w (w.alloc o1)):=hid fun o1=>(Below.refl _ _).alloc (Nat.le_refl _) _;by_cases h1:o<0
 ·have HE:Hid (bV ⟨o,lw,lc⟩=2):=hid (by rw[HK.out,if_pos (.inl h1)]);go_enter Tryz.func140,Tryz.ntmps140;go_wp2_with fail;go_ret;exact⟨by rw[HE.out];rfl,AL.out _⟩
 ·by_cases h2:604800<=o
  ·have HE:Hid (bV ⟨o,lw,lc⟩=2):=hid (by rw[HK.out,if_pos (.inr h2)]);go_enter Tryz.func140,Tryz.ntmps140;go_wp2_with fail;go_ret;exact⟨by rw[HE.out];rfl,AL.out _⟩
  ·by_cases h3:bJ lw=0
   ·have HE:Hid (bV ⟨o,lw,lc⟩=bI lc):=hid (by rw[HK.out,if_neg (fun h=>h.elim h1 h2),if_neg (fun h=>h h3)]);rw[h3]at C;rw[HE.out];clear HK HE h3;go_enter Tryz.func140,Tryz.ntmps140;go_wp2_with fail;refine(C.out _ (AL.out _)).mono ?_;rintro e w1 ⟨rfl,hb1⟩;have c2:=Below.at hb1 (show World.cell? _ ⟨w.heap.size,2,none⟩=some (.slice ca cn cc) by go_cell) (by simp);have B1:=hid (bD (AL.out _) hb1);clear hb1;go_wp2_with fail;refine(D.out _ B1.out).mono ?_;rintro e w2 ⟨rfl,hb2⟩;have B2:=hid (bD B1.out hb2);clear hb2;go_wp2_with fail;go_ret;exact⟨rfl,B2.out⟩
   ·have HE:Hid (bV ⟨o,lw,lc⟩=bJ lw):=hid (by rw[HK.out,if_neg (fun h=>h.elim h1 h2),if_pos h3]);rw[HE.out];clear HK HE;generalize bJ lw=r at *
    have hne:(r==0)=false:=by simp[h3]
    have hne':(r != 0)=true:=by simp[h3]
    go_enter Tryz.func140,Tryz.ntmps140;go_wp2_with fail;refine(C.out _ (AL.out _)).mono ?_;rintro e w1 ⟨rfl,hb1⟩;have B1:=hid (bD (AL.out _) hb1);clear hb1;go_wp2_with fail;go_ret;exact⟨rfl,B1.out⟩

theorem mY (l m:List aO)(a a2:Option Addr)(n n2 c c2:Nat)(w:World)(hr:aM w 2 (.slice a n c) (l.map spV))(hr2:aM w 2 (.slice a2 n2 c2) (m.map spV))(hln:l.length=n)(hln2:m.length=n2)(hl:n<=maxLen) :
  Calls Tryz.prog 142 #[.slice a n c,.slice a2 n2 c2] w fun e w'=>e = .returned (.bool (decide (l=m)))/\Below w.heap.size w w':=by
 have C:=hid (aIu l m a a2 n n2 c c2 w hr hr2 hln hln2 hl);clear hr hr2;generalize decide (l=m)=r at *
 go_enter Tryz.func142,Tryz.ntmps142;go_wp2_with fail;refine C.out.mono ?_;rintro e w1 ⟨rfl,hb1⟩;have B1:=hid hb1;clear hb1;go_wp2_with fail;go_ret;exact⟨rfl,B1.out⟩
theorem rU (k k2:fC)(wa:Option Addr)(wn wc:Nat)(ca:Option Addr)(cn cc:Nat)(wa2:Option Addr)(wn2 wc2:Nat)(ca2:Option Addr)(cn2 cc2:Nat)(w:World)(h:cE w k wa wn wc ca cn cc)(h2:cE w k2 wa2 wn2 wc2 ca2 cn2 cc2) :
  Calls Tryz.prog 97 #[.agg #[.int .i64 k.o,.slice wa wn wc,.slice ca cn cc],.agg #[.int .i64 k2.o,.slice wa2 wn2 wc2,.slice ca2 cn2 cc2]] w fun e w'=>e = .returned (.bool (decide (k=k2)))/\Below w.heap.size w w':=by
 have C:=hid fun v hb=>mY k.w k2.w wa wa2 wn wn2 wc wc2 v (h.below hb).rw (h2.below hb).rw h.lw h2.lw (by have:=h.sw;unfold maxLen;omega);have D:=hid fun v hb=>mY k.c k2.c ca ca2 cn cn2 cc cc2 v (h.below hb).rc (h2.below hb).rc h.lc h2.lc (by have:=h.sc;unfold maxLen;omega);obtain⟨o,lw,lc⟩:=k;obtain⟨o2,lw2,lc2⟩:=k2;simp only at C D ⊢;clear h h2;have AL:Hid (Below w.heap.size w ((w.alloc (.cells #[.int .i64 o,.slice wa wn wc,.slice ca cn cc] 68)).alloc (.cells #[.int .i64 o2,.slice wa2 wn2 wc2,.slice ca2 cn2 cc2] 68))):=hid (((Below.refl _ _).alloc (Nat.le_refl _) _).alloc (by simp) _);by_cases h1:o=o2
 ·subst h1;by_cases h3:lw=lw2
  ·have HE:Hid (decide ((⟨o,lw,lc⟩:fC)=⟨o,lw2,lc2⟩)=decide (lc=lc2)):=hid (by simp[h3]);rw[HE.out];rw[decide_eq_true h3]at C;clear HE h3;generalize decide (lc=lc2)=r at *
   go_enter Tryz.func97,Tryz.ntmps97;go_wp2_with fail;refine(C.out _ AL.out).mono ?_;rintro e w1 ⟨rfl,hb1⟩;have k2:=Below.at hb1 (show World.cell? _ ⟨w.heap.size,2,none⟩=some (.slice ca cn cc) by go_cell) (by simp only[World.size_alloc];omega);have k3:=Below.at hb1 (show World.cell? _ ⟨w.heap.size+1,2,none⟩=some (.slice ca2 cn2 cc2) by go_cell) (by simp only[World.size_alloc];omega);have B1:=hid (bD AL.out hb1);clear hb1;go_wp2_with fail;refine(D.out _ B1.out).mono ?_;rintro e w2 ⟨rfl,hb2⟩;have B2:=hid (bD B1.out hb2);clear hb2;go_wp2_with fail;go_ret;exact⟨by cases r<;>rfl,B2.out⟩
  ·have HE:Hid (decide ((⟨o,lw,lc⟩:fC)=⟨o,lw2,lc2⟩)=false):=hid (by simp[h3]);rw[HE.out];rw[decide_eq_false h3]at C;clear HE h3;go_enter Tryz.func97,Tryz.ntmps97;go_wp2_with fail;refine(C.out _ AL.out).mono ?_;rintro e w1 ⟨rfl,hb1⟩;have B1:=hid (bD AL.out hb1);clear hb1;go_wp2_with fail;go_ret;exact⟨rfl,B1.out⟩
 ·have HE:Hid (decide ((⟨o,lw,lc⟩:fC)=⟨o2,lw2,lc2⟩)=false):=hid (by simp[h1]);rw[HE.out];clear HE;go_enter Tryz.func97,Tryz.ntmps97;go_wp2_with fail;go_ret;exact⟨rfl,AL.out⟩
theorem sD (k k2:fC)(wa:Option Addr)(wn wc:Nat)(ca:Option Addr)(cn cc:Nat)(wa2:Option Addr)(wn2 wc2:Nat)(ca2:Option Addr)(cn2 cc2:Nat)(w:World)(h:cE w k wa wn wc ca cn cc)(h2:cE w k2 wa2 wn2 wc2 ca2 cn2 cc2) :
  Calls Tryz.prog 126 #[.agg #[.int .i64 k.o,.slice wa wn wc,.slice ca cn cc],.agg #[.int .i64 k2.o,.slice wa2 wn2 wc2,.slice ca2 cn2 cc2]] w fun e w'=>e = .returned (.bool (decide (k=k2)))/\Below w.heap.size w w':=by
 have C:=hid fun v hb=>oU k.w k2.w wa wa2 wn wn2 wc wc2 v (h.below hb).rw (h2.below hb).rw h.lw h2.lw (by have:=h.sw;unfold maxLen;omega);have D:=hid fun v hb=>oU k.c k2.c ca ca2 cn cn2 cc cc2 v (h.below hb).rc (h2.below hb).rc h.lc h2.lc (by have:=h.sc;unfold maxLen;omega);obtain⟨o,lw,lc⟩:=k;obtain⟨o2,lw2,lc2⟩:=k2;simp only at C D ⊢;clear h h2;have AL:Hid (Below w.heap.size w ((w.alloc (.cells #[.int .i64 o,.slice wa wn wc,.slice ca cn cc] 68)).alloc (.cells #[.int .i64 o2,.slice wa2 wn2 wc2,.slice ca2 cn2 cc2] 68))):=hid (((Below.refl _ _).alloc (Nat.le_refl _) _).alloc (by simp) _);by_cases h1:o=o2
 ·subst h1;by_cases h3:lw=lw2
  ·have HE:Hid (decide ((⟨o,lw,lc⟩:fC)=⟨o,lw2,lc2⟩)=decide (lc=lc2)):=hid (by simp[h3]);rw[HE.out];rw[decide_eq_true h3]at C;clear HE h3;generalize decide (lc=lc2)=r at *
   go_enter Tryz.func126,Tryz.ntmps126;go_wp2_with fail;refine(C.out _ AL.out).mono ?_;rintro e w1 ⟨rfl,hb1⟩;have k2:=Below.at hb1 (show World.cell? _ ⟨w.heap.size,2,none⟩=some (.slice ca cn cc) by go_cell) (by simp only[World.size_alloc];omega);have k3:=Below.at hb1 (show World.cell? _ ⟨w.heap.size+1,2,none⟩=some (.slice ca2 cn2 cc2) by go_cell) (by simp only[World.size_alloc];omega);have B1:=hid (bD AL.out hb1);clear hb1;go_wp2_with fail;refine(D.out _ B1.out).mono ?_;rintro e w2 ⟨rfl,hb2⟩;have B2:=hid (bD B1.out hb2);clear hb2;go_wp2_with fail;go_ret;exact⟨by cases r<;>rfl,B2.out⟩
  ·have HE:Hid (decide ((⟨o,lw,lc⟩:fC)=⟨o,lw2,lc2⟩)=false):=hid (by simp[h3]);rw[HE.out];rw[decide_eq_false h3]at C;clear HE h3;go_enter Tryz.func126,Tryz.ntmps126;go_wp2_with fail;refine(C.out _ AL.out).mono ?_;rintro e w1 ⟨rfl,hb1⟩;have B1:=hid (bD AL.out hb1);clear hb1;go_wp2_with fail;go_ret;exact⟨rfl,B1.out⟩
 ·have HE:Hid (decide ((⟨o,lw,lc⟩:fC)=⟨o2,lw2,lc2⟩)=false):=hid (by simp[h1]);rw[HE.out];clear HE;go_enter Tryz.func126,Tryz.ntmps126;go_wp2_with fail;go_ret;exact⟨rfl,AL.out⟩

structure fS where
 c:Int
 l:List aO
 r:Int
 b:Int
deriving DecidableEq
def dX (s:aO):Bool:=decide (1<=s.f/\s.f<=1125899906842624)&&decide (0<=s.t/\s.t<=7)
def dW (k:fS):Bool:=decide (0<=k.c/\k.c<=7)&&(decide (1<=k.l.length/\k.l.length<=6)&&(decide (1<=k.r/\k.r<=8)&&(decide (1<=k.b/\k.b<=1048576)&&k.l.all dX)))
structure cF (w:World)(k:fS)(la:Option Addr)(ln lc:Nat):Prop where
 rl:aM w 2 (.slice la ln lc) (k.l.map spV)
 ll:k.l.length=ln
 sl:ln<=2147483648
theorem cF.below {w w':World}{k:fS}{la:Option Addr}{ln lc:Nat}(h:cF w k la ln lc)(hb:Below w.heap.size w w'):cF w' k la ln lc:=⟨h.rl.below hb,h.ll,h.sl⟩
theorem bC (n lo hi:Int)(w:World):Calls Tryz.prog 188 #[.int .i64 n,.int .i64 lo,.int .i64 hi] w fun e w'=>e = .returned (.bool (decide (lo<=n/\n<=hi)))/\w'=w:=by
 by_cases h1:lo<=n
 ·by_cases h2:n<=hi
  ·have HE:Hid (decide (lo<=n/\n<=hi)=true):=hid (decide_eq_true ⟨h1,h2⟩);rw[HE.out];clear HE;go_enter Tryz.func188,Tryz.ntmps188;go_wp2_with fail;go_ret;exact⟨rfl,rfl⟩
  ·have HE:Hid (decide (lo<=n/\n<=hi)=false):=hid (decide_eq_false fun h=>h2 h.2);rw[HE.out];clear HE;go_enter Tryz.func188,Tryz.ntmps188;go_wp2_with fail;go_ret;exact⟨rfl,rfl⟩
 ·have HE:Hid (decide (lo<=n/\n<=hi)=false):=hid (decide_eq_false fun h=>h1 h.1);rw[HE.out];clear HE;go_enter Tryz.func188,Tryz.ntmps188;go_wp2_with fail;go_ret;exact⟨rfl,rfl⟩
theorem kO {l:List aO}{j:Nat}(hj:j<l.length)(h:(l.take j).all dX=true)(k:dX l[j]=true):(l.take (j+1)).all dX=true:=by
 rw[List.take_succ_eq_append_getElem hj,List.all_append,h,List.all_cons,k];rfl
theorem all_false {l:List aO}{j:Nat}(hj:j<l.length)(k:dX l[j]=false):l.all dX=false:=by
 cases e:l.all dX with
 | false=>rfl
 | true=>rw[List.all_eq_true.1 e _ (List.getElem_mem hj)]at k;cases k
theorem uD (l m:List aO)(a a2:Option Addr)(n n2 c c2:Nat)(w:World)(hr:aM w 2 (.slice a n c) (l.map spV))(hr2:aM w 2 (.slice a2 n2 c2) (m.map spV))(hln:l.length=n)(hln2:m.length=n2)(hl:n<=maxLen) :
  Calls Tryz.prog 143 #[.slice a n c,.slice a2 n2 c2] w fun e w'=>e = .returned (.bool (decide (l=m)))/\Below w.heap.size w w':=by
 unfold maxLen at hl;have HR:=hid hr;have HL:=hid hln;have HR2:=hid hr2;have HL2:=hid hln2;clear hr hln hr2 hln2;by_cases hnn:n=n2
 ·subst hnn;go_enter Tryz.func143,Tryz.ntmps143;go_wp2_with fail
  go_loopw [13] (fun i wr=>∃(j:Nat),i = .int .i64 j/\j<=n/\l.take j=m.take j/\Below w.heap.size w wr) (fun i _=>n-(intOf i).toNat)
  case atStart=>exact⟨0,rfl,Nat.zero_le _,rfl,Below.refl _ _⟩
  case round =>
   obtain⟨j,rfl,hj,hrow,hb⟩:=hrel;have HB:=hid hb;have HW:=hid hrow;clear hb hrow;by_cases hlt:j<n
   ·have hjl:j<l.length:=by have:=HL.out;omega
    have hjm:j<m.length:=by have:=HL2.out;omega
    obtain⟨b,o,rfl,hbl,x0,x1⟩:=HR.out.sp hjl;obtain⟨b2,o2,rfl,hbl2,y0,y1⟩:=HR2.out.sp hjm;have x0:=aP HB.out x0 hbl;have x1:=aP HB.out x1 hbl;have y0:=aP HB.out y0 hbl2;have y1:=aP HB.out y1 hbl2;by_cases he:l[j]=m[j]
    ·have HT:Hid (l.take (j+1)=m.take (j+1)):=hid (fM HW.out hjl hjm he);rw[<- he]at y0 y1;generalize l[j]=s at x0 x1 y0 y1;obtain⟨f,t⟩:=s;simp only at x0 x1 y0 y1;go_wp2_with fail
     go_quiet (fail)
     go_wp2_with fail
     go_roundw
     case rel=>exact⟨j+1,by first|rfl|go_num,by omega,HT.out,HB.out.trans ((Below.drewN _ _).mono HB.out.size)⟩
     all_goals (show n-((j:Int)+1).toNat<n-((j:Int)).toNat;omega)
    ·have HE:Hid (decide (l=m)=false):=hid (decide_eq_false fun h=>he (by subst h;rfl));generalize l[j]=s at x0 x1 he;generalize m[j]=s2 at y0 y1 he;obtain⟨f,t⟩:=s;obtain⟨f2,t2⟩:=s2;simp only at x0 x1 y0 y1;have HN:Hid ((f==f2&&t==t2)=false):=hid (by
      rw[Bool.eq_false_iff];intro h;simp only[Bool.and_eq_true,beq_iff_eq]at h;exact he (by rw[h.1,h.2]))
     by_cases h1:f=f2
     ·have h2:¬t=t2:=fun e=>he (by rw[h1,e]);have bx:(f==f2)=true:=by simp[h1]
      have by':(t==t2)=false:=by simp[h2]
      clear he h1 h2;go_wp2_with fail
      go_quiet (fail)
      go_wp2_with fail;go_ret;exact⟨by rw[HE.out];rfl,HB.out.trans ((Below.drewN _ _).mono HB.out.size)⟩
     ·have bx:(f==f2)=false:=by simp[h1]
      clear he h1;go_wp2_with fail
      go_quiet (fail)
      go_wp2_with fail;go_ret;exact⟨by rw[HE.out];rfl,HB.out.trans ((Below.drewN _ _).mono HB.out.size)⟩
   ·obtain rfl:j=n:=by omega
    have HE:Hid (decide (l=m)=true):=hid (decide_eq_true (by
     have:=HW.out
     rwa [List.take_of_length_le (by rw[HL.out];exact Nat.le_refl _),List.take_of_length_le (by rw[HL2.out];exact Nat.le_refl _)]at this))
    go_wp2_with fail;go_ret;exact⟨by rw[HE.out];rfl,HB.out⟩
 ·have HE:Hid (decide (l=m)=false):=hid (decide_eq_false fun h=>hnn (by rw[<- HL.out,<- HL2.out,h]));have hni:¬(n:Int)=(n2:Int):=by omega
  go_enter Tryz.func143,Tryz.ntmps143;go_wp2_with fail;go_ret;exact⟨by rw[HE.out];rfl,Below.refl _ _⟩
theorem kR (k:fS)(la:Option Addr)(ln lc:Nat)(w:World)(h:cF w k la ln lc) :
  Calls Tryz.prog 137 #[.agg #[.int .i64 k.c,.slice la ln lc,.int .i64 k.r,.int .i64 k.b]] w fun e w'=>e = .returned (.int .i64 (if dW k then 0 else 2))/\Below w.heap.size w w':=by
 obtain⟨c,l,r,b⟩:=k;have HR:=hid h.rl;have HL:=hid h.ll;have hsm:=h.sl;simp only at HR HL ⊢;clear h;have AL:Hid (∀o1:Obj,Below w.heap.size w (w.alloc o1)):=hid fun o1=>(Below.refl _ _).alloc (Nat.le_refl _) _;have HK:Hid (dW ⟨c,l,r,b⟩=(decide (0<=c/\c<=7)&&(decide (1<=l.length/\l.length<=6)&&(decide (1<=r/\r<=8)&&(decide (1<=b/\b<=1048576)&&l.all dX))))):=hid rfl;have HLL:Hid (decide (1<=l.length/\l.length<=6)=decide (1<=(ln:Int)/\(ln:Int)<=6)):=hid (by rw[HL.out];exact decide_eq_decide.2 (by omega));cases hc:decide (0<=c/\c<=7) with
 | false =>
  have HE:Hid ((if dW ⟨c,l,r,b⟩ then (0:Int) else 2)=2):=hid (by rw[HK.out,hc];simp);rw[HE.out];clear HE;go_enter Tryz.func137,Tryz.ntmps137;go_wp2_with fail;refine(bC c 0 7 _).mono ?_;rintro e w1 ⟨rfl,rfl⟩;rw[hc];go_wp2_with fail;go_ret;exact⟨rfl,AL.out _⟩
 | true =>
  cases hl:decide (1<=(ln:Int)/\(ln:Int)<=6) with
  | false =>
   have HE:Hid ((if dW ⟨c,l,r,b⟩ then (0:Int) else 2)=2):=hid (by rw[HK.out,hc,HLL.out,hl];simp);rw[HE.out];clear HE;go_enter Tryz.func137,Tryz.ntmps137;go_wp2_with fail;refine(bC c 0 7 _).mono ?_;rintro e w1 ⟨rfl,rfl⟩;rw[hc];go_wp2_with fail;refine(bC (ln:Int) 1 6 _).mono ?_;rintro e w1 ⟨rfl,rfl⟩;rw[hl];go_wp2_with fail;go_ret;exact⟨rfl,AL.out _⟩
  | true =>
   cases hr:decide (1<=r/\r<=8) with
   | false =>
    have HE:Hid ((if dW ⟨c,l,r,b⟩ then (0:Int) else 2)=2):=hid (by rw[HK.out,hc,HLL.out,hl,hr];simp);rw[HE.out];clear HE;go_enter Tryz.func137,Tryz.ntmps137;go_wp2_with fail;refine(bC c 0 7 _).mono ?_;rintro e w1 ⟨rfl,rfl⟩;rw[hc];go_wp2_with fail;refine(bC (ln:Int) 1 6 _).mono ?_;rintro e w1 ⟨rfl,rfl⟩;rw[hl];go_wp2_with fail;refine(bC r 1 8 _).mono ?_;rintro e w1 ⟨rfl,rfl⟩;rw[hr];go_wp2_with fail;go_ret;exact⟨rfl,AL.out _⟩
   | true =>
    cases hb:decide (1<=b/\b<=1048576) with
    | false =>
     have HE:Hid ((if dW ⟨c,l,r,b⟩ then (0:Int) else 2)=2):=hid (by rw[HK.out,hc,HLL.out,hl,hr,hb];simp);rw[HE.out];clear HE;go_enter Tryz.func137,Tryz.ntmps137;go_wp2_with fail;refine(bC c 0 7 _).mono ?_;rintro e w1 ⟨rfl,rfl⟩;rw[hc];go_wp2_with fail;refine(bC (ln:Int) 1 6 _).mono ?_;rintro e w1 ⟨rfl,rfl⟩;rw[hl];go_wp2_with fail;refine(bC r 1 8 _).mono ?_;rintro e w1 ⟨rfl,rfl⟩;rw[hr];go_wp2_with fail;refine(bC b 1 1048576 _).mono ?_;rintro e w1 ⟨rfl,rfl⟩;rw[hb];go_wp2_with fail;go_ret;exact⟨rfl,AL.out _⟩
    | true =>
     have HE:Hid (dW ⟨c,l,r,b⟩=l.all dX):=hid (by rw[HK.out,hc,HLL.out,hl,hr,hb];rfl);rw[HE.out];obtain⟨R,hR⟩:∃R:Int,R=if l.all dX then 0 else 2:=⟨_,rfl⟩;rw[<- hR];have HRR:=hid hR;clear HE HK HLL hR;go_enter Tryz.func137,Tryz.ntmps137;go_wp2_with fail;refine(bC c 0 7 _).mono ?_;rintro e w1 ⟨rfl,rfl⟩;rw[hc];go_wp2_with fail;refine(bC (ln:Int) 1 6 _).mono ?_;rintro e w1 ⟨rfl,rfl⟩;rw[hl];go_wp2_with fail;refine(bC r 1 8 _).mono ?_;rintro e w1 ⟨rfl,rfl⟩;rw[hr];go_wp2_with fail;refine(bC b 1 1048576 _).mono ?_;rintro e w1 ⟨rfl,rfl⟩;rw[hb];go_wp2_with fail
     go_loopw [32] (fun i wr=>∃(j:Nat),i = .int .i64 j/\j<=ln/\(l.take j).all dX=true/\Below w.heap.size w wr) (fun i _=>ln-(intOf i).toNat)
     case atStart=>exact⟨0,rfl,Nat.zero_le _,rfl,AL.out _⟩
     case round =>
      obtain⟨j,rfl,hj,hrow,hbw⟩:=hrel;have HB:=hid hbw;have HW:=hid hrow;clear hbw hrow;by_cases hlt:j<ln
      ·have hjl:j<l.length:=by have:=HL.out;omega
       obtain⟨bb,oo,rfl,hbl,x0,x1⟩:=HR.out.sp hjl;have x0:=aP HB.out x0 hbl;have x1:=aP HB.out x1 hbl;have HT:=hid (kO hjl HW.out);have HF:=hid (all_false hjl);generalize l[j]=s at x0 x1 HT HF;obtain⟨f,t⟩:=s;simp only at x0 x1 HT HF;cases g1:decide (1<=f/\f<=1125899906842624) with
       | false =>
        have HE:Hid (l.all dX=false):=hid (HF.out (by simp only[dX,g1,Bool.false_and]));go_wp2_with fail;refine(bC f 1 1125899906842624 _).mono ?_;rintro e w1 ⟨rfl,rfl⟩;rw[g1];go_wp2_with fail;go_ret;exact⟨by rw[HRR.out,HE.out];rfl,HB.out.alloc HB.out.size _⟩
       | true =>
        cases g2:decide (0<=t/\t<=7) with
        | false =>
         have HE:Hid (l.all dX=false):=hid (HF.out (by simp only[dX,g1,g2,Bool.true_and]));go_wp2_with fail;refine(bC f 1 1125899906842624 _).mono ?_;rintro e w1 ⟨rfl,rfl⟩;rw[g1];go_wp2_with fail;refine(bC t 0 7 _).mono ?_;rintro e w1 ⟨rfl,rfl⟩;rw[g2];go_wp2_with fail;go_ret;exact⟨by rw[HRR.out,HE.out];rfl,HB.out.alloc HB.out.size _⟩
        | true =>
         have HT2:=hid (HT.out (by simp only[dX,g1,g2,Bool.true_and]));go_wp2_with fail;refine(bC f 1 1125899906842624 _).mono ?_;rintro e w1 ⟨rfl,rfl⟩;rw[g1];go_wp2_with fail;refine(bC t 0 7 _).mono ?_;rintro e w1 ⟨rfl,rfl⟩;rw[g2];go_wp2_with fail
         go_roundw
         case rel=>exact⟨j+1,by first|rfl|go_num,by omega,HT2.out,HB.out.alloc HB.out.size _⟩
         all_goals (show ln-((j:Int)+1).toNat<ln-((j:Int)).toNat;omega)
      ·obtain rfl:j=ln:=by omega
       have HE:Hid (l.all dX=true):=hid (by have:=HW.out;rwa [List.take_of_length_le (by rw[HL.out];exact Nat.le_refl _)]at this);go_wp2_with fail;go_ret;exact⟨by rw[HRR.out,HE.out];rfl,HB.out⟩

theorem zC (k:fS)(la:Option Addr)(ln lc:Nat)(w:World)(h:cF w k la ln lc) :
  Calls Tryz.prog 141 #[.agg #[.int .i64 k.c,.slice la ln lc,.int .i64 k.r,.int .i64 k.b]] w fun e w'=>e = .returned (.bool (dW k))/\Below w.heap.size w w':=by
 obtain⟨c,l,r,b⟩:=k;have HR:=hid h.rl;have HL:=hid h.ll;have hsm:=h.sl;simp only at HR HL ⊢;clear h;have AL:Hid (∀o1:Obj,Below w.heap.size w (w.alloc o1)):=hid fun o1=>(Below.refl _ _).alloc (Nat.le_refl _) _;have HK:Hid (dW ⟨c,l,r,b⟩=true ↔ ((0<=c/\c<=7)/\(1<=(ln:Int)/\(ln:Int)<=6)/\(1<=r/\r<=8)/\(1<=b/\b<=1048576)/\l.all dX=true)):=hid (by
  have:=HL.out;simp only[dW,Bool.and_eq_true,decide_eq_true_eq];constructor
  ·rintro⟨h1,h2,h3,h4,h5⟩;exact⟨h1,by omega,h3,h4,h5⟩
  ·rintro⟨h1,h2,h3,h4,h5⟩;exact⟨h1,by omega,h3,h4,h5⟩)
 obtain⟨R,hR⟩:∃R:Bool,R=dW ⟨c,l,r,b⟩:=⟨_,rfl⟩;rw[<- hR];have HRR:=hid hR;clear hR;by_cases q0:c<0
 ·have HE:Hid (R=false):=hid (by rw[HRR.out,Bool.eq_false_iff];intro h;have:=HK.out.1 h;omega);go_enter Tryz.func141,Tryz.ntmps141;go_wp2_with fail;go_ret;exact⟨by rw[HE.out];rfl,AL.out _⟩
 by_cases q1:7<c
 ·have HE:Hid (R=false):=hid (by rw[HRR.out,Bool.eq_false_iff];intro h;have:=HK.out.1 h;omega);go_enter Tryz.func141,Tryz.ntmps141;go_wp2_with fail;go_ret;exact⟨by rw[HE.out];rfl,AL.out _⟩
 by_cases q2:(ln:Int)<1
 ·have HE:Hid (R=false):=hid (by rw[HRR.out,Bool.eq_false_iff];intro h;have:=HK.out.1 h;omega);go_enter Tryz.func141,Tryz.ntmps141;go_wp2_with fail;go_ret;exact⟨by rw[HE.out];rfl,AL.out _⟩
 by_cases q3:6<(ln:Int)
 ·have HE:Hid (R=false):=hid (by rw[HRR.out,Bool.eq_false_iff];intro h;have:=HK.out.1 h;omega);go_enter Tryz.func141,Tryz.ntmps141;go_wp2_with fail;go_ret;exact⟨by rw[HE.out];rfl,AL.out _⟩
 by_cases q4:r<1
 ·have HE:Hid (R=false):=hid (by rw[HRR.out,Bool.eq_false_iff];intro h;have:=HK.out.1 h;omega);go_enter Tryz.func141,Tryz.ntmps141;go_wp2_with fail;go_ret;exact⟨by rw[HE.out];rfl,AL.out _⟩
 by_cases q5:8<r
 ·have HE:Hid (R=false):=hid (by rw[HRR.out,Bool.eq_false_iff];intro h;have:=HK.out.1 h;omega);go_enter Tryz.func141,Tryz.ntmps141;go_wp2_with fail;go_ret;exact⟨by rw[HE.out];rfl,AL.out _⟩
 by_cases q6:b<1
 ·have HE:Hid (R=false):=hid (by rw[HRR.out,Bool.eq_false_iff];intro h;have:=HK.out.1 h;omega);go_enter Tryz.func141,Tryz.ntmps141;go_wp2_with fail;go_ret;exact⟨by rw[HE.out];rfl,AL.out _⟩
 by_cases q7:1048576<b
 ·have HE:Hid (R=false):=hid (by rw[HRR.out,Bool.eq_false_iff];intro h;have:=HK.out.1 h;omega);go_enter Tryz.func141,Tryz.ntmps141;go_wp2_with fail;go_ret;exact⟨by rw[HE.out];rfl,AL.out _⟩
 have HE0:Hid (R=l.all dX):=hid (by
  rw[HRR.out,Bool.eq_iff_iff,HK.out];exact⟨fun h=>h.2.2.2.2,fun h=>⟨by omega,by omega,by omega,by omega,h⟩⟩)
 go_enter Tryz.func141,Tryz.ntmps141;go_wp2_with fail
 go_loopw [3] (fun i wr=>∃(j:Nat),i = .int .i64 j/\j<=ln/\(l.take j).all dX=true/\wr.cell? ⟨w.heap.size,1,none⟩=some (.slice la ln lc)/\Below w.heap.size w wr/\w.heap.size<wr.heap.size) (fun i _=>ln-(intOf i).toNat)
 case atStart=>exact⟨0,rfl,Nat.zero_le _,rfl,by go_cell,AL.out _,by simp⟩
 case round =>
  obtain⟨j,rfl,hj,hrow,k1,hbw,hsz⟩:=hrel;have HB:=hid hbw;have HW:=hid hrow;have K1:=hid k1;clear hbw hrow;by_cases hlt:j<ln
  ·have hjl:j<l.length:=by have:=HL.out;omega
   obtain⟨bb,oo,rfl,hbl,x0,x1⟩:=HR.out.sp hjl;have x0:=aP HB.out x0 hbl;have x1:=aP HB.out x1 hbl;have HT:=hid (kO hjl HW.out);have HF:=hid (all_false hjl);generalize l[j]=s at x0 x1 HT HF;obtain⟨f,t⟩:=s;simp only at x0 x1 HT HF;have HV:Hid (dX ⟨f,t⟩=true ↔ ((1<=f/\f<=1125899906842624)/\(0<=t/\t<=7))):=hid (by simp only[dX,Bool.and_eq_true,decide_eq_true_eq]);by_cases z0:f<1
   ·have HE:Hid (R=false):=hid (by rw[HE0.out];exact HF.out (by rw[Bool.eq_false_iff];intro h;have:=HV.out.1 h;omega));go_wp2_with fail;go_ret;exact⟨by rw[HE.out];rfl,HB.out.alloc HB.out.size _⟩
   by_cases z1:1125899906842624<f
   ·have HE:Hid (R=false):=hid (by rw[HE0.out];exact HF.out (by rw[Bool.eq_false_iff];intro h;have:=HV.out.1 h;omega));go_wp2_with fail;go_ret;exact⟨by rw[HE.out];rfl,HB.out.alloc HB.out.size _⟩
   by_cases z2:t<0
   ·have HE:Hid (R=false):=hid (by rw[HE0.out];exact HF.out (by rw[Bool.eq_false_iff];intro h;have:=HV.out.1 h;omega));go_wp2_with fail;go_ret;exact⟨by rw[HE.out];rfl,HB.out.alloc HB.out.size _⟩
   by_cases z3:7<t
   ·have HE:Hid (R=false):=hid (by rw[HE0.out];exact HF.out (by rw[Bool.eq_false_iff];intro h;have:=HV.out.1 h;omega));go_wp2_with fail;go_ret;exact⟨by rw[HE.out];rfl,HB.out.alloc HB.out.size _⟩
   have HT2:=hid (HT.out (HV.out.2 ⟨by omega,by omega⟩));go_wp2_with fail
   go_roundw
   case rel=>exact⟨j+1,by first|rfl|go_num,by omega,HT2.out,aR K1.out _,HB.out.alloc HB.out.size _,by simp only[World.size_alloc];omega⟩
   all_goals (show ln-((j:Int)+1).toNat<ln-((j:Int)).toNat;omega)
  ·obtain rfl:j=ln:=by omega
   have HE:Hid (l.all dX=true):=hid (by have:=HW.out;rwa [List.take_of_length_le (by rw[HL.out];exact Nat.le_refl _)]at this);go_wp2_with fail;go_ret;exact⟨by rw[HE0.out,HE.out];rfl,HB.out⟩
