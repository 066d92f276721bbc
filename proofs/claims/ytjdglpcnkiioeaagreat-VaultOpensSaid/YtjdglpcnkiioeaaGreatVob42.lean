/- For vltopens_law_holds. -/
import Derived.Lib.SliceRun
import Derived.Laws.IdiomCopy
import Derived.Test.YtjdglpcnkiioeaaGreatVob35
import Derived.Test.YtjdglpcnkiioeaaGreatVob36
set_option maxHeartbeats 16000000
set_option maxRecDepth 100000
namespace Go.Proofs.YtjdglpcnkiioeaaGreat
open Go.Lib (hid)
open Go.RowKit Go.Maps Go.Proofs.Own Go.Shelf

def isN (n:ByteArray):Bool:=decide (bB (aP n)≠0)
theorem qK (b:Nat):∀(vs:List Value) (o:Nat) (w:World),Kept w (w.setCells b o vs) (fun k=>k=b)
 | [],_,_w=>Kept.refl _ _
 | v::vs,o,w=>(Kept.setCell w ⟨b,o,none⟩ v).trans (qK b vs (o+1) _)

theorem aG8 (s:ByteArray)(w:World):Calls Tryz.prog 123 #[.string s] w fun e w'=>e = .returned (.bool (!isN s))/\Below w.heap.size w w':=by
 obtain⟨b,hb⟩:∃b,isN s=b:=⟨_,rfl⟩;have HB:Hid (decide (bB (aP s)≠0)=b):=hid hb;rw[hb];clear hb;go_enter Tryz.func123,Tryz.ntmps123;go_wp2_with fail;refine(wZ s w).mono ?_;rintro e w1 ⟨rfl,hb1⟩;rw[HB.out];have B1:=hid hb1;clear hb1;generalize bB (aP s)=f at *
 go_wp2_with fail;go_ret;exact⟨rfl,B1.out⟩

structure wC (w:World)(g:Nat)(xs:List ByteArray):Prop where
 at':∀t (ht:t<xs.length),w.cell? ⟨g,t,none⟩=some (.string xs[t])
 fr:∀t,w.frozen? ⟨g,t,none⟩=false
theorem wC.kept {w w':World}{g:Nat}{xs:List ByteArray}{S:Nat->Prop}(h:wC w g xs)(hl:g<w.heap.size)(hk:Kept w w' S)(hs:¬S g):wC w' g xs :=
 ⟨fun t ht=>hk.cell (h.at' t ht) hs,fun t=>(hk.frozen (a:=⟨g,t,none⟩) hl hs).trans (h.fr t)⟩
theorem wC.below {w w':World}{g:Nat}{xs:List ByteArray}(h:wC w g xs)(hl:g<w.heap.size)(hb:Below w.heap.size w w'):wC w' g xs :=
 h.kept hl (Kept.aL hb (S:=fun _=>False) fun k h1 h2=>by omega) id
theorem wC.set {w:World}{g i:Nat}{xs:List ByteArray}(h:wC w g xs)(hi:i<xs.length)(s:ByteArray):wC (w.setCell ⟨g,i,none⟩ (.string s)) g (xs.set i s):=by
 refine⟨fun t ht=>?_,fun t=>by rw[fsc];exact h.fr t⟩;rw[List.length_set]at ht;by_cases e:i=t
 ·subst e;rw[css (h.at' i hi),List.getElem_set_self]
 ·rw[World.cell?_setCell_other _ _ _ _ (by simp only[ne_eq,Addr.mk.injEq,true_and,and_true];omega),List.getElem_set_ne e];exact h.at' t ht

theorem aJ1 {v:Value}{ns:List ByteArray}{w:World}(h:zJ w v ns)(hn:ns.length<=1000000) :
  Calls Tryz.prog 163 #[v,.func (.func 123) #[] #[]] w fun e w'=>Below w.heap.size w w'/\((e = .returned (.int .i64 (-1)) /\ ∀n ∈ ns,isN n=true) \/ ∃(j:Nat) (s:ByteArray),ns[j]? = some s/\e = .returned (.int .i64 j)/\(∀n ∈ ns.take j,isN n=true)/\isN s=false):=by
 have H:=hid h;obtain⟨a,c,rfl,hc⟩:=h;have HC:=hid hc;obtain⟨N,hN⟩:∃N,ns.length=N:=⟨_,rfl⟩;have HN:=hid hN;rw[hN]at hn ⊢;have hn':(N:Int)<=1000000:=by omega
 clear hc hN hn;go_enter Tryz.func163,Tryz.ntmps163;go_wp2_with fail
 go_loopw [5,8] (fun _ y wr=>∃j:Nat,j<=N/\y = .int .i64 j/\(∀n ∈ ns.take j,isN n=true)/\Below w.heap.size w wr) (fun _ y _=>N-(intOf y).toNat)
 case atStart=>exact⟨0,Nat.zero_le _,rfl,nofun,Below.refl _ _⟩
 case round =>
  obtain⟨j,hj,rfl,hall,hb⟩:=hrel;have HA:=hid hall;have HB:=hid hb;clear hall hb;by_cases hlt:j<N
  ·have hjn:j<ns.length:=by rw[HN.out];exact hlt
   obtain⟨b,o,rfl,hcell⟩:=HC.out j hjn;have q0:=Below.at HB.out hcell (World.block_lt_of_cell? _ _ hcell);have HTK:Hid (ns.take (j+1)=ns.take j ++ [ns[j]]):=hid (List.take_succ_eq_append_getElem hjn);obtain⟨s,hs⟩:∃s,ns[j]=s:=⟨_,rfl⟩;have HSS:Hid (ns[j]? = some s):=hid (by rw[List.getElem?_eq_getElem hjn,hs]);rw[hs]at q0 HTK;obtain⟨r,hr⟩:∃r,isN s=r:=⟨_,rfl⟩;have HR:=hid hr;have j0:(0:Int)<=(j:Int):=by omega
   have j1:(j:Int)<(N:Int):=by omega
   clear hcell hs hjn hr;go_wp2_with fail;refine(aG8 s wr).mono ?_;rintro e w1 ⟨rfl,hb1⟩;rw[HR.out];have B1:Hid (Below w.heap.size w w1):=hid (HB.out.trans (hb1.mono HB.out.size));clear hb1 q0;cases r with
   | true =>
    go_wp2_with fail
    go_roundw
    case rel=>exact⟨j+1,by omega,by go_num,fun n hn=>by
     rw[HTK.out]at hn;rcases List.mem_append.1 hn with hn|hn
     ·exact HA.out n hn
     ·obtain rfl:=List.mem_singleton.1 hn;exact HR.out,B1.out⟩
    case measure=>simp[intOf];omega
   | false =>
    go_wp2_with fail;go_ret;exact⟨B1.out,.inr ⟨j,s,HSS.out,rfl,HA.out,HR.out⟩⟩
  ·obtain rfl:j=N:=by omega
   go_wp2_with fail;go_ret;refine⟨HB.out,.inl ⟨rfl,fun n hn=>HA.out n ?_⟩⟩;rw[List.take_of_length_le (Nat.le_of_eq HN.out)];exact hn

theorem aCY {w:World}{base:Nat}{v:Value}{ns:List ByteArray}(h:w.ownsRow base 9 1 v ns.length (ns.map Value.string)) :
  zJ w v ns/\(ns ≠ [] -> ∃g c,v = .slice (some ⟨g,0,none⟩) ns.length c/\ns.length<=c/\g<w.heap.size/\wC w g ns):=by
 have hr:=h;rcases h.2 with ⟨rfl,h0⟩|⟨g,cap,cur,rfl,hb,hg,hc,_⟩
 ·exact⟨⟨none,0,by rw[h0],fun j hj=>by omega⟩,fun hne=>absurd (List.eq_nil_of_length_eq_zero h0) hne⟩
 ·have hcell:∀j (hj:j<ns.length),w.cell? ⟨g,j,none⟩=some (.string ns[j]):=fun j hj=>by
   rw[World.ownsRow.cellAt hr j (by omega),List.getElem?_map,List.getElem?_eq_getElem hj];rfl
  refine⟨⟨_,_,rfl,fun j hj=>⟨g,0,rfl,by rw[Nat.zero_add];exact hcell j hj⟩⟩,fun _=>⟨g,cap,rfl,hc,(Array.getElem?_eq_some_iff.1 hg).1,hcell,fun t=>World.ownsRow.frozenAt hr t⟩⟩

theorem aIF {v:Value}{ns:List ByteArray}{w:World}{base:Nat}(h:w.ownsRow base 9 1 v ns.length (ns.map Value.string))(hn:ns.length<=1000000) :
  Calls Tryz.prog 122 #[v,.func (.func 123) #[] #[]] w fun e w'=>∃v',e = .returned v'/\zJ w' v' (ns.filter isN)/\Kept w w' (fun k=>v.ownBlock=some k) /\ ∀b,v'.ownBlock=some b->v.ownBlock=some b:=by
 obtain⟨hS,hG⟩:=aCY h;have HS:=hid hS;have HG:=hid hG;obtain⟨a,c,rfl,_⟩:=hS;obtain⟨N,hN⟩:∃N,ns.length=N:=⟨_,rfl⟩;have HN:=hid hN;have HNL:=hid hn;rw[hN]at HS HG hn ⊢;have hn':(N:Int)<=1000000:=by omega
 clear h hG hN hn;go_enter Tryz.func122,Tryz.ntmps122;go_wp2_with fail;refine(aJ1 HS.out HNL.out).mono ?_;rintro e w1 ⟨hb1,(⟨rfl,hall⟩|⟨i0,s0,hs0,rfl,hall,hno⟩)⟩
 ·have HALL:=hid hall;have B1:=hid hb1;clear hall hb1;go_wp2_with fail;go_ret;refine⟨.slice a N c,rfl,?_,Kept.aL B1.out fun k h1 h2=>by omega,fun b hb=>hb⟩;rw[List.filter_eq_self.2 fun n hn=>HALL.out n hn];exact HS.out.below B1.out
 ·have hi0:i0<ns.length:=(List.getElem?_eq_some_iff.1 hs0).1;have hne:ns ≠ []:=List.ne_nil_of_length_pos (by omega);obtain⟨g,c',hv,hc,hgl,hA⟩:=HG.out hne;cases hv;have HAL:=hid hA;have HGL:=hid hgl;have HNE:=hid hne;have A1:=hid (hA.below hgl hb1);have GL1:Hid (g<w1.heap.size):=hid (Nat.lt_of_lt_of_le hgl hb1.size);have K1:Hid (Kept w w1 (fun k=>k=g)):=hid (Kept.aL hb1 fun k h1 h2=>by omega);have hiN:i0<N:=by rw[<- HN.out];exact hi0
  have ST:Hid (ns.take i0=(ns.take (i0+1)).filter isN):=hid (by
   have e:ns[i0]'hi0=s0:=(List.getElem?_eq_some_iff.1 hs0).2;rw[List.take_succ_eq_append_getElem hi0,List.filter_append,List.filter_eq_self.2 fun n hn=>hall n hn,e];simp[hno])
  have hcap:(N:Int)<=(c:Int):=by omega
  have hneg:((i0:Int) == -1)=false:=beq_eq_false_iff_ne.2 (by omega);have hcl:=hid hc;clear hall hno hs0 hi0 hA hgl hb1 hne;go_wp2_with fail;clear hneg
  go_loopw [5,6,7] (fun x5 x6 _ wr=>∃(i j:Nat) (xs:List ByteArray),i<j/\j<=N/\x5 = .int .i64 i/\x6 = .int .i64 j/\xs.length=N/\wC wr g xs/\xs.take i=(ns.take j).filter isN/\xs.drop j=ns.drop j/\Kept w wr (fun k=>k=g)/\g<wr.heap.size) (fun _ x6 _ _=>N-(intOf x6).toNat)
  case atStart=>exact⟨i0,i0+1,ns,by omega,by omega,rfl,by first|rfl|go_num,HN.out,A1.out,ST.out,rfl,K1.out,GL1.out⟩
  case round =>
   obtain⟨i,j,xs,hij,hjN,rfl,rfl,hxl,hA,htk,hdr,hk,hgl⟩:=hrel;have HA:=hid hA;have HXL:=hid hxl;have HTK:=hid htk;have HDR:=hid hdr;have HK:=hid hk;have HGW:=hid hgl;have i0':(0:Int)<=(i:Int):=by omega
   have j0':(0:Int)<=(j:Int):=by omega
   have hiN':(i:Int)<(N:Int):=by omega
   clear hA hxl htk hdr hk hgl;by_cases hlt:j<N
   ·have hjn:j<ns.length:=by rw[HN.out];exact hlt
    have hjx:j<xs.length:=by rw[HXL.out];exact hlt
    obtain⟨s,hs⟩:∃s,ns[j]=s:=⟨_,rfl⟩;have hxs:xs[j]=s:=by
     have h1:(xs.drop j)[0]? = (ns.drop j)[0]?:=by rw[HDR.out]
     rw[List.getElem?_drop,List.getElem?_drop,Nat.add_zero,List.getElem?_eq_getElem hjx,List.getElem?_eq_getElem hjn,hs]at h1;exact Option.some.inj h1
    have q0:=HA.out.at' j hjx;rw[hxs]at q0;have HTJ:Hid (ns.take (j+1)=ns.take j ++ [s]):=hid (by rw[List.take_succ_eq_append_getElem hjn,hs]);have HDJ:Hid (xs.drop (j+1)=ns.drop (j+1)):=hid (by rw[<- List.drop_drop,<- List.drop_drop,HDR.out]);obtain⟨r,hr⟩:∃r,isN s=r:=⟨_,rfl⟩;have HR:=hid hr;have j1:(j:Int)<(N:Int):=by omega
    clear hs hxs hjn hjx hr;go_wp2_with fail;refine(aG8 s wr).mono ?_;rintro e w2 ⟨rfl,hb2⟩;rw[HR.out];have A2:=hid (HA.out.below HGW.out hb2);have G2:Hid (g<w2.heap.size):=hid (Nat.lt_of_lt_of_le HGW.out hb2.size);have K2:Hid (Kept w w2 (fun k=>k=g)):=hid (HK.out.trans (Kept.aL hb2 fun k h1 h2=>by omega));clear hb2 q0;cases r with
    | true =>
     have hix:i<xs.length:=by rw[HXL.out];omega
     have z0:=A2.out.at' i hix;have z1:=A2.out.fr i;have A3:=hid (A2.out.set hix s);have K3:Hid (Kept w (w2.setCell ⟨g,i,none⟩ (.string s)) (fun k=>k=g)):=hid (K2.out.trans (Kept.setCell w2 ⟨g,i,none⟩ _));have HIX:=hid hix;generalize xs[i]=old at z0;clear hix;go_wp2_with fail
     go_roundw
     case rel =>
      refine⟨i+1,j+1,xs.set i s,by omega,by omega,by go_num,by go_num,by rw[List.length_set];exact HXL.out,A3.out,?_,?_,K3.out,by simp;exact G2.out⟩
      ·rw[HTJ.out,List.filter_append,<- HTK.out,List.take_succ_eq_append_getElem (by rw[List.length_set];exact HIX.out),List.getElem_set_self,List.take_set];rw[List.set_eq_of_length_le (by rw[List.length_take];omega)];simp[HR.out]
      ·rw[List.drop_set_of_lt (by omega)];exact HDJ.out
     case measure=>simp[intOf];omega
    | false =>
     go_wp2_with fail
     go_roundw
     case rel =>
      refine⟨i,j+1,xs,by omega,by omega,by go_num,by go_num,HXL.out,A2.out,?_,HDJ.out,K2.out,G2.out⟩;rw[HTJ.out,List.filter_append,<- HTK.out];simp[HR.out]
     case measure=>simp[intOf];omega
   ·obtain rfl:j=N:=by omega
    have hcc:¬(c=i):=by have:=hcl.out;omega
    have hic:i<=c:=by have:=hcl.out;omega
    have hij2:i<=j:=by omega
    have hclr:∀ty,(Builtin.clear_ #[54] ty #[.slice (some ⟨g,i,none⟩) (j-i) (c-i)]).run Tryz.prog wr = .ok (.tuple #[]) (wr.setCells g i (List.replicate (j-i) (.string ⟨#[]⟩))):=fun ty =>
     Lib.run_clear_slice wr 54 9 ty (.string ⟨#[]⟩) Tryz.underlying54 Tryz.zeroValue9 rfl rfl g i (j-i) (c-i) (by omega) (fun t ht=>by rw[HA.out.at' (i+t) (by rw[HXL.out];omega)];rfl) (fun t _=>HA.out.fr (i+t))
    go_wp2_with fail;go_ret;have hfl:xs.take i=ns.filter isN:=by rw[HTK.out,List.take_of_length_le (Nat.le_of_eq HN.out)]
    have hlen:(ns.filter isN).length=i:=by rw[<- hfl,List.length_take,HXL.out];omega
    have hks:=qK g (List.replicate (j-i) (Value.string ⟨#[]⟩)) i wr;refine⟨.slice (some ⟨g,0,none⟩) i c,rfl,⟨some ⟨g,0,none⟩,c,by rw[hlen],fun t ht=>⟨g,0,rfl,?_⟩⟩,(HK.out.trans hks).mono fun k _ e=>by rw[e];rfl,fun b hb=>hb⟩;rw[hlen]at ht;rw[World.cell?_setCells_out g _ i wr ⟨g,0+t,none⟩ (fun _ _=>.inl (by simp only;omega)),Nat.zero_add,HA.out.at' t (by rw[HXL.out];omega)];have e:(xs.take i)[t]'(by rw[List.length_take,HXL.out];omega)=(ns.filter isN)[t]'(by rw[hlen];exact ht):=by simp only[hfl]
    rw[List.getElem_take]at e;rw[e]
