/- For vltopens_law_holds. -/
import Derived.Test.YtjdglpcnkiioeaaGreatVob7
import Derived.Test.YtjdglpcnkiioeaaGreatVob21
set_option maxHeartbeats 16000000
set_option maxRecDepth 100000
namespace Go.Proofs.YtjdglpcnkiioeaaGreat
open Go.Lib (hid)
open Go.RowKit Go.Maps Go.Proofs.Own Go.Shelf
attribute [local go_sem] Oper.semAt_some

def aID (l:List Nat)(xs:Array Value)(W:World):Prop:=cS l=0 /\ ∃v,xs = #[.int .u8 (l.getD 1 0:Nat),v]/\Bytes W v (aF l)
def mT (l:List Nat):List Nat:=l.drop (frN l+8)
def aG6 (l:List Nat):Prop:=cS l≠0
theorem Bytes.isCells {W:World}{v:Value}{l:List Nat}{b:Nat}(h:Bytes W v l)(hne:l ≠ [])(hb:v.ownBlock=some b):∃o,W.heap[b]? = some o/\o.isCells=true:=by
 obtain⟨b',o,c,rfl,_,_,hc⟩:=h.eD (List.length_pos_iff.2 hne);obtain rfl:b'=b:=Option.some.inj hb;exact cells_of_cell (hc 0 (List.length_pos_iff.2 hne))
theorem Bytes.aIL {w A B:World}{v:Value}{l:List Nat}(h:Bytes A v l)(hr:∀k,wB w k -> ∃o,A.heap[k]? = some o/\o.isCells=false)(hk:Kept A B (wB w)):Bytes B v l:=by
 by_cases hl:l = []
 ·subst hl;exact⟨h.shape,by obtain⟨a,c,rfl,_⟩:=h.shape;exact Reads.nil _ _ _ _,h.lt,h.small⟩
 ·refine h.kept hk fun b hb e=>?_;obtain⟨o,h1,h2⟩:=h.isCells hl hb;obtain⟨o',h3,h4⟩:=hr b e;rw[h1]at h3;cases h3;rw[h2]at h4;cases h4
theorem aID.kept {w A B:World}{l:List Nat}{xs:Array Value}(h:aID l xs A)(hr:∀k,wB w k -> ∃o,A.heap[k]? = some o/\o.isCells=false)(hk:Kept A B (wB w)):aID l xs B:=by
 obtain⟨h1,v,rfl,h2⟩:=h;exact⟨h1,v,rfl,h2.aIL hr hk⟩

theorem aB5 (a:Option Addr)(n c:Nat)(w:World):Calls Tryz.prog 74 #[.slice a n c] w fun e w'=>e = .returned (.func (.func 129) #[] #[.pointer (some ⟨w.heap.size,0,none⟩)])/\w.alloc (.cells #[.slice a n c] 36)=w':=by
 go_enter Tryz.func74,Tryz.ntmps74;go_wp2_with fail;go_ret;exact⟨rfl,rfl⟩

theorem each_seq (n:Nat)(hn:2<=n)(bb rb:Nat)(v:Value)(l0:List Nat)(w:World)(hc:w.cell? ⟨bb,0,none⟩=some v)(hB:Bytes w v l0)(hrb:l0 = []\/v.ownBlock=some rb)(hrl:rb<w.heap.size)(S0:Nat->Prop)(hS:¬S0 rb) :
  aKC n Tryz.prog 129 #[.pointer (some ⟨bb,0,none⟩)] S0 aID mT aG6 l0 w:=by
 intro ly J Jx W hw hl hJ hY h0;have hcW:W.cell? ⟨bb,0,none⟩=some v:=Below.at hw hc (World.block_lt_of_cell? _ _ hc);have HB:=hid (hB.below hw);have HJ:=hid hJ;have HY:=hid hY;have H0:=hid h0;have HRB:=hid hrb;have HNS:Hid (¬(S0 rb\/rb=ly)):=hid (fun h=>h.elim hS (fun e=>by omega));obtain⟨a,c,rfl,_⟩:=hB.shape;clear hJ hY h0 hrb hB hc hS;refine callsIn_of_wp Tryz.func129 rfl trivial ?_ rfl;simp only[Tryz.ntmps129,List.size_toArray,List.length_cons,List.length_nil,Nat.reduceAdd,Nat.reduceSub,Array.replicate_succ,Array.replicate_zero,List.push_toArray,List.append_toArray,List.nil_append,List.cons_append]
 gi_wp2_with fail
 gi_loopw [3] (fun x wr=>∃(l:List Nat) (a:Option Addr) (m c:Nat),x = .slice a m c/\Bytes wr (.slice a m c) l/\(l = []\/(Value.slice a m c).ownBlock=some rb)/\J l wr) (fun x _=>match x with | .slice _ m _=>m|_=>0)
 case atStart=>exact⟨l0,a,_,c,rfl,HB.out,HRB.out,H0.out⟩
 case round =>
  obtain⟨l,a,m,c,rfl,hb,hr,hj⟩:=hrel;have BL:=hid hb;have RL:=hid hr;have JL:=hid hj;have HM:Hid (m=l.length):=hid hb.cells.1;have hml:(m:Int)<=2097152:=by have:=hb.small;rw[<- hb.cells.1]at this;omega
  clear hb hr hj hcW HB HRB H0;by_cases hz:m=0
  ·subst hz;have HF:Hid (aG6 l):=hid (by
    have:l = []:=List.eq_nil_of_length_eq_zero HM.out.symm;subst this;unfold aG6;decide)
   gi_wp2_with fail
   go_end0
   exact⟨⟨_,rfl⟩,.inl ⟨l,HF.out,JL.out⟩⟩
  ·have hz0:(0:Int)<(m:Int):=by omega
   clear hz
   gi_wp2_with fail
   refine⟨trivial,fun _=>(by omega),?_⟩;refine((callsIn_wide (n:=n-1)).2 (sR _ l _ BL.out)).mono ?_;rintro e w1 ⟨hb1,hno,hyes⟩;have B1:=hid hb1;have J1:=hid (HJ.out _ _ _ JL.out hb1);have BL1:=hid (BL.out.below hb1);by_cases ht:cS l=0
   ·obtain⟨v',rfl,hB'⟩:=hyes ht;obtain⟨kd,hkd⟩:∃k,l.getD 1 0=k:=⟨_,rfl⟩;obtain⟨fn,tmps,assign,body,hy,hR⟩:=HY.out l #[.int .u8 (kd:Nat),v'] w1 J1.out ⟨ht,v',by rw[hkd],hB'⟩;have HN:Hid (cP l=0):=hid (by false_or_by_contra;rename_i h;unfold cS at ht;rw[if_pos h]at ht;exact h ht);rw[hkd];generalize hq:frN l+8=q;have HQ:=hid hq;obtain⟨a',n',c',rfl⟩:∃a n c,v'=Value.slice a n c:=by obtain⟨a,c,e,_⟩:=hB'.shape;exact⟨a,_,c,e⟩
    have HRR:=hid hR;clear hb1 hno hyes ht hB' hkd hR hq
    gi_wp2_with fail
    refine⟨fun _=>(by omega),?_⟩;refine HRR.out.mono ?_;rintro e W3 (⟨rfl,hJ3,hk3⟩|⟨rfl,hJx3⟩)
    ·have HB3:Hid (Bytes W3 (.slice a m c) l):=hid (by
      rcases RL.out with e|e
      ·have h0:=HM.out;rw[e,List.length_nil]at h0;omega
      ·exact BL1.out.kept hk3 fun b hb h=>by rw[e]at hb;cases hb;exact HNS.out h)
     have HL:Hid (q<=l.length):=hid (by rw[<- HQ.out];have:=iM HN.out;omega);obtain⟨v4,hB4,hO4,hcut⟩:=HB3.out.aAb Tryz.u8s q HL.out;obtain⟨a4,n4,c4,rfl⟩:∃a n c,v4=Value.slice a n c:=by obtain⟨a,c,e,_⟩:=hB4.shape;exact⟨a,_,c,e⟩
     have HB4:=hid hB4;have HO4:=hid hO4;have J3:=hid hJ3;have hq0:(0:Int)<=(q:Int):=by omega
     clear hJ3 hk3 hB4 hO4 hy
     gi_wp2_with fail
     go_roundw
     case rel=>exact⟨l.drop q,a4,n4,c4,rfl,HB4.out,RL.out.imp (fun e=>by rw[e];exact List.drop_nil) (fun e=>HO4.out.trans e),by have:=J3.out;unfold mT at this;rw[HQ.out]at this;exact this⟩
     case measure =>
      have h1:=HB4.out.cells.1;rw[List.length_drop]at h1;have:=HM.out;have:=HL.out;have:=HQ.out;show n4<m;omega
    ·have JX:=hid hJx3;clear hJx3 hy
     gi_wp2_with fail
     refine bodyPost_ret (results_none rfl _ _ _) rfl ?_;exact⟨⟨_,rfl⟩,.inr JX.out⟩
   ·have h:=hno ht;subst h;have HT:=hid ht;obtain⟨k,hk⟩:∃k,cS l=k:=⟨_,rfl⟩;rw[hk];have hkb:((k:Int) != 0)=true:=by have:=ht;rw[hk]at this;simp;omega
    clear hb1 hno hyes ht hk
    gi_wp2_with fail
    refine⟨fun _ h=>(by cases h),?_⟩
    gi_wp2_with fail
    refine bodyPost_ret (results_none rfl _ _ _) rfl ?_;exact⟨⟨_,rfl⟩,.inl ⟨l,HT.out,J1.out⟩⟩
