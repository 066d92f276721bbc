/- For scbodies_law_holds. -/
import Derived.Test.YtgeihgombjbkbaaGreatSbb13
import Derived.Test.YtgeihgombjbkbaaGreatSbb12
set_option maxHeartbeats 16000000
set_option maxRecDepth 100000
namespace Go.Proofs.Own
open Go Go.RowKit

theorem kI {w:World}{r:List Value}{tt:TypeId}:∀j u,r[j]? = some u->(w.alloc (.cells r.toArray tt)).cell? ⟨w.heap.size,j,none⟩=some u:=fun j u h=>by
 rw[World.cell?_alloc_new]
 simpa using h
theorem ap2 {P:Program}{t e tt:TypeId}{sz by':Nat}(I:cE P t e sz by'){w:World}{o:Oper}{a:Act}{Q:Exit->Act->World->Prop}{s x:Operand}{base:Nat}{v:Value}{rs:List (List Value)}{r:List Value}{ops:Array Oper}{rest:List Oper}
  (hown:dC w base e sz v rs) (hr:r.length=sz) (h1:∀u ∈ r,u.oneCell'=true) (hlen:rs.length<=4294967296) (hbase:base<=w.heap.size)
  (ho:o.op = .call { callee:=.builtin .append,args:=#[s,x],argTypes:=#[t,t] }) (hgd:o.guard=none) (hs:a.eval s=v) (hx:a.eval x = .slice (some ⟨w.heap.size,0,none⟩) 1 1)
  (h:∀v' w',dC w' base e sz v' (rs ++ [r])->Below base w w'->Kept w w' (fun k=>v.ownBlock=some k)->(∀b,v'.ownBlock=some b->v.ownBlock=some b\/w.heap.size<b)->wpList P ops Q rest (a.put o.dst v') w'):wpList P ops Q (o::rest) a (w.alloc (.cells r.toArray tt)):=by
 refine mI I s x ho base v rs w.heap.size r hs hx (hown.alloc _) hr kI h1 hlen (by rw[World.size_alloc];omega) hgd fun v' w' k1 k2 k3 k4=>?_;refine h v' w' k1 (((Below.refl _ _).alloc hbase _).trans k4) ((Kept.alloc w _ _).trans (Kept.aIp k2)) fun b hb=>?_;rcases k3 with k3|k3
 ·exact .inl (k3 ▸ hb)
 ·rw[k3]at hb;refine .inr ?_;have:=Option.some.inj hb;rw[World.size_alloc]at this;omega
end Go.Proofs.Own
namespace Go.Proofs.YtgeihgombjbkbaaGreat
open Go.Lib (hid)
open Go.RowKit Go.Maps Go.Proofs.Own

theorem iX (f t:Int)(w:World):Calls Tryz.prog 260 #[.agg #[.int .i64 f,.int .i64 t]] w fun e w'=>e = .returned (.bool (fS ⟨f,t⟩))/\Below w.heap.size w w':=by
 by_cases h1:0<=f
 ·by_cases h2:f<t
  ·by_cases h3:t<=1125899906842624
   ·have HE:Hid (fS ⟨f,t⟩=true):=hid (by unfold fS;simp[h1,h2,h3]);go_enter Tryz.func260,Tryz.ntmps260;go_wp2_with fail;go_ret;exact⟨by rw[HE.out];rfl,(Below.refl _ _).alloc (Nat.le_refl _) _⟩
   ·have HE:Hid (fS ⟨f,t⟩=false):=hid (by unfold fS;simp[h3]);go_enter Tryz.func260,Tryz.ntmps260;go_wp2_with fail;go_ret;exact⟨by rw[HE.out];rfl,(Below.refl _ _).alloc (Nat.le_refl _) _⟩
  ·have HE:Hid (fS ⟨f,t⟩=false):=hid (by unfold fS;simp[h2]);go_enter Tryz.func260,Tryz.ntmps260;go_wp2_with fail;go_ret;exact⟨by rw[HE.out];rfl,(Below.refl _ _).alloc (Nat.le_refl _) _⟩
 ·have HE:Hid (fS ⟨f,t⟩=false):=hid (by unfold fS;simp[h1]);go_enter Tryz.func260,Tryz.ntmps260;go_wp2_with fail;go_ret;exact⟨by rw[HE.out];rfl,(Below.refl _ _).alloc (Nat.le_refl _) _⟩
theorem iK {w w1 w2:World}(h:Below w.heap.size w w1)(h2:Below w1.drew.heap.size w1.drew w2):Below w.heap.size w w2 :=
 h.trans (((Below.refl _ w1).drew.trans h2).mono h.size)
def endOf (l:List bP):Nat->Int
 | 0=>0
 | k+1=>(l.getD k ⟨0,0⟩).t
theorem vH (l:List bP)(a:Option Addr)(n c:Nat)(w:World)(hr:aU w 2 (.slice a n c) (l.map spV))(hln:l.length=n)(hl:n<=maxLen) :
  Calls Tryz.prog 191 #[.slice a n c] w fun e w'=>e = .returned (.int .i64 (bB l))/\Below w.heap.size w w':=by
 unfold maxLen at hl;have HR:=hid hr;have HL:=hid hln;clear hr hln;by_cases h32:n<=32
 ·have b1:¬(32:Int)<(n:Int):=by omega
  have HE:Hid (bB l=if rowE 0 l then 0 else 2):=hid (by unfold bB;rw[if_neg (by have:=HL.out;omega)]);go_enter Tryz.func191,Tryz.ntmps191;go_wp2_with fail
  go_loopw [3] (fun i wr=>∃(j:Nat),i = .int .i64 j/\j<=n/\rowE 0 l=rowE (endOf l j) (l.drop j)/\Below w.heap.size w wr) (fun i _=>n-(intOf i).toNat)
  case atStart=>exact⟨0,rfl,Nat.zero_le _,rfl,Below.refl _ _⟩
  case round =>
   obtain⟨j,rfl,hj,hrow,hb⟩:=hrel;have HB:=hid hb;have HW:=hid hrow;clear hb hrow;by_cases hlt:j<n
   ·have hjl:j<l.length:=by have:=HL.out;omega
    obtain⟨b,o,rfl,hbl,x0,x1⟩:=HR.out.sp hjl;have HBL:Hid (b<wr.heap.size):=hid (Nat.lt_of_lt_of_le hbl HB.out.size);have x0:=aI HB.out x0 hbl;have x1:=aI HB.out x1 hbl;have HD:Hid (rowE 0 l=(fS l[j]&&decide (endOf l j<=l[j].f)&&rowE l[j].t (l.drop (j+1)))):=hid (by rw[HW.out,rH hjl]);have HN:Hid (endOf l (j+1)=l[j].t):=hid (by simp[endOf,List.getD_eq_getElem?_getD,hjl]);have HP:Hid (∀k,j=k+1 -> ∃en,endOf l j=en/\wr.cell? ⟨b,o+k*2+1,none⟩=some (.int .i64 en)):=hid fun k hk=>by
     subst hk;obtain⟨b',o',e',hbl',_,z1⟩:=HR.out.sp (show k<l.length by omega);cases e';exact⟨_,rfl,by simpa [endOf,List.getD_eq_getElem?_getD,show k<l.length by omega] using aI HB.out z1 hbl'⟩
    generalize l[j]=s at x0 x1 HD HN;obtain⟨f,t⟩:=s;simp only at x0 x1 HD HN;clear hbl;cases hok:fS ⟨f,t⟩ with
    | true =>
     by_cases hj0:j=0
     ·subst hj0;have hf0:0<=f:=by simp only[fS,Bool.and_eq_true,decide_eq_true_eq]at hok;exact hok.1.1
      have HD2:Hid (rowE 0 l=rowE (endOf l 1) (l.drop 1)):=hid (by rw[HD.out,HN.out,hok];simp[endOf,hf0]);clear hf0 HP;have z0:((0:Nat):Int)=0:=rfl;have hkd:decide ((0:Int)<((0:Nat):Int))=false:=rfl;rw[Nat.zero_mul,Nat.add_zero]at x0 x1;go_wp2_with fail;have HQ:∀w1:World,Below wr.drew.heap.size wr.drew w1->(w1.cell? ⟨b,o,none⟩=some (.int .i64 f)/\w1.cell? ⟨b,o+1,none⟩=some (.int .i64 t)):=fun w1 hb=>⟨Below.at hb (show wr.drew.cell? _=_ from x0) (show b<wr.heap.size from HBL.out),Below.at hb (show wr.drew.cell? _=_ from x1) (show b<wr.heap.size from HBL.out)⟩;refine cK [0,0,3,7,15,31,63,127,255,511,1023,1023,4095,8191,16383,1023,1023,66559,230399,492543,1016831,2097151,4194303,8388607] 2096128 (fun v=>v.cell? ⟨b,o,none⟩=some (.int .i64 f)/\v.cell? ⟨b,o+1,none⟩=some (.int .i64 t)) (by kernel_rfl) ?_;refine aX [0,1,2,3] (by kernel_rfl) (L:=bm 24 15) (by kernel_rfl) (f':=20) rfl (fun _ _ _ _ h=>h) (fun v q ⟨y0,y1⟩=>⟨aL y0 q,aL y1 q⟩) (.inr ⟨x0,x1⟩) ?_;simp only[sF,sL]
      iterate 4 (first|(refine bQ _ (by rfl) (fun w' hs=>by obtain⟨y0,y1⟩:=hs;go_simp;try with_reducible rfl) rfl ?_;simp only[Act.put,sA])|(refine bD _ (by rfl) (fun w'=>by go_simp;try with_reducible rfl) ?_;simp only[Act.put,sA]))
      refine bM ?_;refine dO 4 (by kernel_rfl) (L:=bm 24 31) (by kernel_rfl) ?_;simp only[sL];go_wp2_with fail;refine(iX f t _).mono ?_;rintro e w1 ⟨rfl,hb1⟩;rw[hok];have BB:Hid (Below w.heap.size w w1):=hid (iK HB.out hb1);have HSQ:=HQ w1 hb1;clear hb1;go_wp2_with fail;refine cC nofun ?_;refine aX [5,6,7,8,9,10,11,12,13,14,15,16,17,18,19,20,21,22,23] (by kernel_rfl) (L:=bm 24 16777215) (by kernel_rfl) (f':=0) rfl (fun _ _ _ _ h=>h) (fun v q ⟨y0,y1⟩=>⟨aL y0 q,aL y1 q⟩) (.inr HSQ) ?_;simp only[sF,sL]
      iterate 19 (first|(refine bQ _ (by rfl) (fun w' hs=>by obtain⟨y0,y1⟩:=hs;go_simp;try with_reducible rfl) rfl ?_;simp only[Act.put,sA])|(refine bD _ (by rfl) (fun w'=>by go_simp;try with_reducible rfl) ?_;simp only[Act.put,sA])|(refine eK (by rfl) ?_;simp only[Act.put,sA]))
      refine bM ?_;refine dM (by kernel_rfl) ?_;go_wp2_with fail
      go_roundw
      case rel=>exact⟨1,by first|rfl|go_num,by omega,HD2.out,BB.out⟩
      all_goals (show n-((1:Nat):Int).toNat<n-_;simp only[intOf];omega)
     ·obtain⟨k,hk⟩:∃k,j=k+1:=⟨j-1,by omega⟩;obtain⟨en,hen',z1⟩:=HP.out k hk;have HEN:=hid hen';clear hen' HP;have hsub:IntKind.i64.wrap ((j:Int)-1)=(k:Int):=by rw[IntKind.wrap_i64];omega
      have hkn:(k:Int)<(n:Int):=by omega
      have hk1:(0:Int)<(j:Int):=by omega
      have hkd:decide ((0:Int)<(j:Int))=true:=decide_eq_true hk1;have hkd2:decide (0<j)=true:=decide_eq_true (by omega);clear hk hj0;by_cases hen:f<en
      ·have hde:decide (f<en)=true:=decide_eq_true hen;have HE2:Hid (bB l=2):=hid (by rw[HE.out,HD.out,HEN.out,hok,decide_eq_false (show ¬en<=f by omega)];rfl);go_wp2_with fail;have HQ:∀w1:World,Below wr.drew.heap.size wr.drew w1->(w1.cell? ⟨b,o+j*2,none⟩=some (.int .i64 f)/\w1.cell? ⟨b,o+j*2+1,none⟩=some (.int .i64 t)/\w1.cell? ⟨b,o+k*2+1,none⟩=some (.int .i64 en)):=fun w1 hb=>⟨Below.at hb (show wr.drew.cell? _=_ from x0) (show b<wr.heap.size from HBL.out),Below.at hb (show wr.drew.cell? _=_ from x1) (show b<wr.heap.size from HBL.out),Below.at hb (show wr.drew.cell? _=_ from z1) (show b<wr.heap.size from HBL.out)⟩;refine cK [0,0,3,7,15,31,63,127,255,511,1023,1023,4095,8191,16383,1023,1023,66559,230399,492543,1016831,2097151,4194303,8388607] 2096128 (fun v=>v.cell? ⟨b,o+j*2,none⟩=some (.int .i64 f)/\v.cell? ⟨b,o+j*2+1,none⟩=some (.int .i64 t)/\v.cell? ⟨b,o+k*2+1,none⟩=some (.int .i64 en)) (by kernel_rfl) ?_;refine aX [0,1,2,3] (by kernel_rfl) (L:=bm 24 15) (by kernel_rfl) (f':=20) rfl (fun _ _ _ _ h=>h) (fun v q ⟨y0,y1,y2⟩=>⟨aL y0 q,aL y1 q,aL y2 q⟩) (.inr ⟨x0,x1,z1⟩) ?_;simp only[sF,sL]
       iterate 4 (first|(refine bQ _ (by rfl) (fun w' hs=>by obtain⟨y0,y1,y2⟩:=hs;go_simp;try with_reducible rfl) rfl ?_;simp only[Act.put,sA])|(refine bD _ (by rfl) (fun w'=>by go_simp;try with_reducible rfl) ?_;simp only[Act.put,sA]))
       refine bM ?_;refine dO 4 (by kernel_rfl) (L:=bm 24 31) (by kernel_rfl) ?_;simp only[sL];go_wp2_with fail;refine(iX f t _).mono ?_;rintro e w1 ⟨rfl,hb1⟩;rw[hok];have BB:Hid (Below w.heap.size w w1):=hid (iK HB.out hb1);have HSQ:=HQ w1 hb1;clear hb1;go_wp2_with fail;refine cC nofun ?_;refine aX [5,6,7,8,9,10,11,12,13,14,15,16,17,18,19,20,21,22,23] (by kernel_rfl) (L:=bm 24 16777215) (by kernel_rfl) (f':=0) rfl (fun _ _ _ _ h=>h) (fun v q ⟨y0,y1,y2⟩=>⟨aL y0 q,aL y1 q,aL y2 q⟩) (.inr HSQ) ?_;simp only[sF,sL]
       iterate 19 (first|(refine bQ _ (by rfl) (fun w' hs=>by obtain⟨y0,y1,y2⟩:=hs;go_simp;try with_reducible rfl) rfl ?_;simp only[Act.put,sA])|(refine bD _ (by rfl) (fun w'=>by go_simp;try with_reducible rfl) ?_;simp only[Act.put,sA])|(refine eK (by rfl) ?_;simp only[Act.put,sA]))
       refine bM ?_;refine dM (by kernel_rfl) ?_;go_wp2_with fail;go_ret;exact⟨by rw[HE2.out];rfl,BB.out⟩
      ·have hde:decide (f<en)=false:=decide_eq_false hen;have HD2:Hid (rowE 0 l=rowE (endOf l (j+1)) (l.drop (j+1))):=hid (by rw[HD.out,HN.out,HEN.out,hok,decide_eq_true (show en<=f by omega)];rfl);go_wp2_with fail;have HQ:∀w1:World,Below wr.drew.heap.size wr.drew w1->(w1.cell? ⟨b,o+j*2,none⟩=some (.int .i64 f)/\w1.cell? ⟨b,o+j*2+1,none⟩=some (.int .i64 t)/\w1.cell? ⟨b,o+k*2+1,none⟩=some (.int .i64 en)):=fun w1 hb=>⟨Below.at hb (show wr.drew.cell? _=_ from x0) (show b<wr.heap.size from HBL.out),Below.at hb (show wr.drew.cell? _=_ from x1) (show b<wr.heap.size from HBL.out),Below.at hb (show wr.drew.cell? _=_ from z1) (show b<wr.heap.size from HBL.out)⟩;refine cK [0,0,3,7,15,31,63,127,255,511,1023,1023,4095,8191,16383,1023,1023,66559,230399,492543,1016831,2097151,4194303,8388607] 2096128 (fun v=>v.cell? ⟨b,o+j*2,none⟩=some (.int .i64 f)/\v.cell? ⟨b,o+j*2+1,none⟩=some (.int .i64 t)/\v.cell? ⟨b,o+k*2+1,none⟩=some (.int .i64 en)) (by kernel_rfl) ?_;refine aX [0,1,2,3] (by kernel_rfl) (L:=bm 24 15) (by kernel_rfl) (f':=20) rfl (fun _ _ _ _ h=>h) (fun v q ⟨y0,y1,y2⟩=>⟨aL y0 q,aL y1 q,aL y2 q⟩) (.inr ⟨x0,x1,z1⟩) ?_;simp only[sF,sL]
       iterate 4 (first|(refine bQ _ (by rfl) (fun w' hs=>by obtain⟨y0,y1,y2⟩:=hs;go_simp;try with_reducible rfl) rfl ?_;simp only[Act.put,sA])|(refine bD _ (by rfl) (fun w'=>by go_simp;try with_reducible rfl) ?_;simp only[Act.put,sA]))
       refine bM ?_;refine dO 4 (by kernel_rfl) (L:=bm 24 31) (by kernel_rfl) ?_;simp only[sL];go_wp2_with fail;refine(iX f t _).mono ?_;rintro e w1 ⟨rfl,hb1⟩;rw[hok];have BB:Hid (Below w.heap.size w w1):=hid (iK HB.out hb1);have HSQ:=HQ w1 hb1;clear hb1;go_wp2_with fail;refine cC nofun ?_;refine aX [5,6,7,8,9,10,11,12,13,14,15,16,17,18,19,20,21,22,23] (by kernel_rfl) (L:=bm 24 16777215) (by kernel_rfl) (f':=0) rfl (fun _ _ _ _ h=>h) (fun v q ⟨y0,y1,y2⟩=>⟨aL y0 q,aL y1 q,aL y2 q⟩) (.inr HSQ) ?_;simp only[sF,sL]
       iterate 19 (first|(refine bQ _ (by rfl) (fun w' hs=>by obtain⟨y0,y1,y2⟩:=hs;go_simp;try with_reducible rfl) rfl ?_;simp only[Act.put,sA])|(refine bD _ (by rfl) (fun w'=>by go_simp;try with_reducible rfl) ?_;simp only[Act.put,sA])|(refine eK (by rfl) ?_;simp only[Act.put,sA]))
       refine bM ?_;refine dM (by kernel_rfl) ?_;go_wp2_with fail
       go_roundw
       case rel=>exact⟨j+1,by first|rfl|go_num,by omega,HD2.out,BB.out⟩
       all_goals (show n-((j+1:Nat):Int).toNat<n-_;simp only[intOf];omega)
    | false =>
     have HE2:Hid (bB l=2):=hid (by rw[HE.out,HD.out,hok];rfl);go_wp2_with fail;have HQ:∀w1:World,Below wr.drew.heap.size wr.drew w1->(w1.cell? ⟨b,o+j*2,none⟩=some (.int .i64 f)/\w1.cell? ⟨b,o+j*2+1,none⟩=some (.int .i64 t)):=fun w1 hb=>⟨Below.at hb (show wr.drew.cell? _=_ from x0) (show b<wr.heap.size from HBL.out),Below.at hb (show wr.drew.cell? _=_ from x1) (show b<wr.heap.size from HBL.out)⟩;refine cK [0,0,3,7,15,31,63,127,255,511,1023,1023,4095,8191,16383,1023,1023,66559,230399,492543,1016831,2097151,4194303,8388607] 2096128 (fun v=>v.cell? ⟨b,o+j*2,none⟩=some (.int .i64 f)/\v.cell? ⟨b,o+j*2+1,none⟩=some (.int .i64 t)) (by kernel_rfl) ?_;refine aX [0,1,2,3] (by kernel_rfl) (L:=bm 24 15) (by kernel_rfl) (f':=20) rfl (fun _ _ _ _ h=>h) (fun v q ⟨y0,y1⟩=>⟨aL y0 q,aL y1 q⟩) (.inr ⟨x0,x1⟩) ?_;simp only[sF,sL]
     iterate 4 (first|(refine bQ _ (by rfl) (fun w' hs=>by obtain⟨y0,y1⟩:=hs;go_simp;try with_reducible rfl) rfl ?_;simp only[Act.put,sA])|(refine bD _ (by rfl) (fun w'=>by go_simp;try with_reducible rfl) ?_;simp only[Act.put,sA]))
     refine bM ?_;refine dO 4 (by kernel_rfl) (L:=bm 24 31) (by kernel_rfl) ?_;simp only[sL];go_wp2_with fail;refine(iX f t _).mono ?_;rintro e w1 ⟨rfl,hb1⟩;rw[hok];have BB:Hid (Below w.heap.size w w1):=hid (iK HB.out hb1);have HSQ:=HQ w1 hb1;clear hb1;go_wp2_with fail;refine cC nofun ?_;refine aX [5,6,7,8,9,10,11,12,13,14,15,16,17,18,19,20,21,22,23] (by kernel_rfl) (L:=bm 24 16777215) (by kernel_rfl) (f':=0) rfl (fun _ _ _ _ h=>h) (fun v q ⟨y0,y1⟩=>⟨aL y0 q,aL y1 q⟩) (.inr HSQ) ?_;simp only[sF,sL]
     iterate 19 (first|(refine bQ _ (by rfl) (fun w' hs=>by obtain⟨y0,y1⟩:=hs;go_simp;try with_reducible rfl) rfl ?_;simp only[Act.put,sA])|(refine bD _ (by rfl) (fun w'=>by go_simp;try with_reducible rfl) ?_;simp only[Act.put,sA])|(refine eK (by rfl) ?_;simp only[Act.put,sA]))
     refine bM ?_;refine dM (by kernel_rfl) ?_;go_wp2_with fail;go_ret;exact⟨by rw[HE2.out];rfl,BB.out⟩
   ·obtain rfl:j=n:=by omega
    have HE2:Hid (bB l=0):=hid (by rw[HE.out,HW.out,List.drop_eq_nil_of_le (by have:=HL.out;omega)];rfl);go_wp2_with fail;go_ret;exact⟨by rw[HE2.out];rfl,HB.out⟩
 ·have b1:(32:Int)<(n:Int):=by omega
  have HE:Hid (bB l=21):=hid (by unfold bB;rw[if_pos (by have:=HL.out;omega)]);go_enter Tryz.func191,Tryz.ntmps191;go_wp2_with fail;go_ret;exact⟨by rw[HE.out];rfl,Below.refl _ _⟩

theorem jP {P:Program}{t:TypeId}{z:Value}{n m:Nat}(h:(P.info? t).map (fun i=>(i.zero,i.size,i.bytes))=some (some z,n,m)):∃i,P.info? t=some i/\i.zero=some z/\i.size=n/\i.bytes=m:=by
 cases e:P.info? t with
 | none=>rw[e]at h;cases h
 | some i =>
  rw[e]at h;simp only[Option.map_some,Option.some.injEq,Prod.mk.injEq]at h;exact⟨i,rfl,h.1,h.2.1,h.2.2⟩
theorem bJN:cE Tryz.prog 66 324 2 16:=by
 obtain⟨i0,hi,hz0,hz1,hz2⟩:=jP (show (Tryz.prog.info? 324).map (fun i=>(i.zero,i.size,i.bytes))=some (some (.agg #[.int .i64 0,.int .i64 0]),2,16) by kernel_rfl);exact⟨Tryz.underlying66,⟨i0,_,hi,hz0,hz1,hz2,rfl⟩,by decide,by decide⟩
theorem bJO:aAt Tryz.prog 324:=fun i z hi hz=>by
 obtain⟨i0,h1,h2,_,_⟩:=jP (show (Tryz.prog.info? 324).map (fun i=>(i.zero,i.size,i.bytes))=some (some (.agg #[.int .i64 0,.int .i64 0]),2,16) by kernel_rfl);rw[hi]at h1;cases h1;rw[hz]at h2;cases h2;intro x hx;simp[Value.cells]at hx
theorem aKv (l:List bP):No8 (l.map spV).flatten:=by
 intro x hx;obtain⟨r,hr,hx⟩:=List.mem_flatten.1 hx;obtain⟨p,hp,rfl⟩:=List.mem_map.1 hr;simp[spV]at hx
theorem aKw (l:List bP):∀r ∈ l.map spV,∀u ∈ r,u.oneCell'=true:=fun r hr u hu=>by
 obtain⟨p,hp,rfl⟩:=List.mem_map.1 hr;simp only[spV,List.mem_cons,List.not_mem_nil,or_false]at hu;rcases hu with rfl|rfl<;>rfl
theorem aI6 (l:List bP):∀r ∈ l.map spV,r.length=2:=fun r hr=>by
 obtain⟨p,hp,rfl⟩:=List.mem_map.1 hr;rfl
theorem pP (v:Value)(l:List bP)(w:World)(h:aU w 2 v (l.map spV))(hl:l.length<=2147483648) :
  Calls Tryz.prog 342 #[v] w fun e w'=>∃a' n' c',e = .returned (.slice a' n' c')/\Below w.heap.size w w':=by
 have H:=hid h;have HL:=hid hl;obtain⟨a,c,rfl,_⟩:=h.shape;clear hl;cases a with
 | none =>
  clear h;generalize (l.map spV).length=q;have h0:=fun w=>Lib.run_eql_slice_nil (P:=Tryz.prog) w 66 324 none q c 0 0 Tryz.underlying66;clear H;go_enter Tryz.func342,Tryz.ntmps342;go_wp2_with fail;go_ret;exact⟨_,_,_,rfl,Below.refl _ _⟩
 | some ad =>
  have h0:=fun w=>Lib.run_eql_slice_nil (P:=Tryz.prog) w 66 324 (some ad) (l.map spV).length c 0 0 Tryz.underlying66;clear h;generalize hq:(l.map spV).length=q at *
  have HQ:=hid hq;clear hq;go_enter Tryz.func342,Tryz.ntmps342
  go_wp2_with (at_builtin;go_loud (refine lN bJN _ _ rfl (.slice (some ⟨w.heap.size,0,none⟩) 0 0) (.slice (some ad) q c) [] (l.map spV) rfl rfl (lE.made (heap_alloc_new _ _)) (H.out.below ((Below.refl _ _).alloc (Nat.le_refl _) _)) (aI6 l) (aKw l) (aKv l) bJO (by have:=HL.out;have:=HQ.out;simp only[List.length_nil,List.length_map]at *;omega) rfl ?_;intro v2 w2 ho2 hg2 hat2;have G2:=hid hg2;obtain⟨a2,c2,rfl,_⟩:=ho2.shape;clear hg2 hat2 ho2))
  go_ret;exact⟨_,_,_,rfl,((Below.refl _ _).alloc (Nat.le_refl _) _).grown G2.out (by simp) (fun g hg=>by obtain rfl:=Option.some.inj hg;exact Nat.le_refl _)⟩
def bG (l:List bP):Int:=if bB l=0 then (if 0<l.length/\604800<endOf l l.length then 2 else 0) else bB l
theorem rA (f:Fn)(xs ys:Array Value)(w:World):Calls Tryz.prog 343 #[.func f xs ys] w fun e w'=>∃p,e = .returned (.pointer p)/\Below w.heap.size w w':=by
 go_enter Tryz.func343,Tryz.ntmps343;go_wp2_with fail;go_ret;exact⟨_,rfl,by first|exact Below.refl _ _|exact(Below.refl _ _).alloc (Nat.le_refl _) _⟩
theorem zK (l:List bP)(a:Option Addr)(n c:Nat)(w:World)(hr:aU w 2 (.slice a n c) (l.map spV))(hln:l.length=n)(hl:n<=2147483648) :
  Calls Tryz.prog 258 #[.slice a n c] w fun e w'=>∃p,e = .returned (.tuple #[.pointer p,.int .i64 (bB l)])/\Below w.heap.size w w':=by
 have HR:=hid hr;have C:=hid (uX l a n c w hr hln (by unfold maxLen;omega));have D:=hid fun v hb=>pP (.slice a n c) l v (hr.below hb) (by omega);clear hr hln;by_cases h0:bB l=0
 ·rw[h0]at C;have H0:=hid h0;clear h0;go_enter Tryz.func258,Tryz.ntmps258;go_wp2_with fail;refine C.out.mono ?_;rintro e w1 ⟨rfl,hb1⟩;have B1:=hid hb1;clear hb1;go_wp2_with fail;refine(D.out _ B1.out).mono ?_;rintro e w2 ⟨a2,n2,c2,rfl,hb2⟩;have B2:Hid (Below w.heap.size w w2):=hid (B1.out.trans (hb2.mono B1.out.size));clear hb2;go_wp2_with fail
  go_ret2
  exact⟨some ⟨w2.heap.size,0,none⟩,by rw[H0.out];rfl,B2.out.alloc B2.out.size _⟩
 ·generalize bB l=r at *
  have hne:(r==0)=false:=by simp[h0]
  have hne':(r != 0)=true:=by simp[h0]
  go_enter Tryz.func258,Tryz.ntmps258;go_wp2_with fail;refine C.out.mono ?_;rintro e w1 ⟨rfl,hb1⟩;have B1:=hid hb1;clear hb1;go_wp2_with fail
  go_ret2
  exact⟨_,rfl,B1.out⟩
theorem aO {w w1 w2:World}(h:Below w.heap.size w w1)(h2:Below w1.heap.size w1 w2):Below w.heap.size w w2:=h.trans (h2.mono h.size)
theorem zQ (l:List bP)(a:Option Addr)(n c:Nat)(w:World)(hr:aU w 2 (.slice a n c) (l.map spV))(hln:l.length=n)(hl:n<=2147483648) :
  Calls Tryz.prog 257 #[.slice a n c] w fun e w'=>∃p,e = .returned (.tuple #[.pointer p,.int .i64 (bG l)])/\Below w.heap.size w w':=by
 have HR:=hid hr;have HL:=hid hln;have C:=hid (uX l a n c w hr hln (by unfold maxLen;omega));have D:=hid fun v hb=>pP (.slice a n c) l v (hr.below hb) (by omega);clear hr hln;by_cases h0:bB l=0
 ·rw[h0]at C;have HW:Hid (bG l=if 0<n/\604800<endOf l n then 2 else 0):=hid (by unfold bG;rw[if_pos h0,HL.out]);clear h0;by_cases hn:0<n
  ·obtain⟨k,hk⟩:∃k,n=k+1:=⟨n-1,by omega⟩;obtain⟨b,o,rfl,hbl,x0,x1⟩:=HR.out.sp (show k<l.length by have:=HL.out;omega);have HE:Hid (endOf l n=(l[k]'(by have:=HL.out;omega)).t):=hid (by subst hk;simp[endOf,List.getD_eq_getElem?_getD,show k<l.length by have:=HL.out;omega]);generalize (l[k]'(by have:=HL.out;omega)).t=t at x1 HE;have hsub:IntKind.i64.wrap ((n:Int)-1)=(k:Int):=by rw[IntKind.wrap_i64];omega
   have hkn:(k:Int)<(n:Int):=by omega
   have hn0:(0:Int)<(n:Int):=by omega
   have X1:=hid x1;have HBL:=hid hbl;clear x0 x1 hbl hk;by_cases ht:604800<t
   ·have HE2:Hid (bG l=2):=hid (by rw[HW.out,HE.out,if_pos ⟨hn,ht⟩]);go_enter Tryz.func257,Tryz.ntmps257;go_wp2_with fail;refine C.out.mono ?_;rintro e w1 ⟨rfl,hb1⟩;have B1:=hid hb1;clear hb1;have x1:=Below.at B1.out X1.out HBL.out;go_wp2_with fail
    go_ret2
    exact⟨none,by rw[HE2.out];rfl,B1.out⟩
   ·have HE2:Hid (bG l=0):=hid (by rw[HW.out,HE.out,if_neg (fun h=>ht h.2)]);go_enter Tryz.func257,Tryz.ntmps257;go_wp2_with fail;refine C.out.mono ?_;rintro e w1 ⟨rfl,hb1⟩;have B1:=hid hb1;clear hb1;have x1:=Below.at B1.out X1.out HBL.out;go_wp2_with fail;refine(D.out _ B1.out).mono ?_;rintro e w2 ⟨a2,n2,c2,rfl,hb2⟩;have B2:=hid (aO B1.out hb2);clear hb2;go_wp2_with fail;refine(rA _ _ _ _).mono ?_;rintro e w3 ⟨p3,rfl,hb3⟩;have c0:=Below.at hb3 (show World.cell? _ ⟨w2.heap.size,1,none⟩=some (.pointer none) by go_cell) (by simp);have f0:w3.frozen? ⟨w2.heap.size,1,none⟩=false:=by rw[hb3.frozen (by simp)];simp
    have B3:=hid (dE B2.out hb3);have Z3:Hid (w.heap.size<=w2.heap.size):=hid B2.out.size;clear hb3;go_wp2_with fail
    go_ret2
    exact⟨some ⟨w2.heap.size,0,none⟩,by rw[HE2.out];rfl,B3.out.setCell Z3.out _⟩
  ·have HE2:Hid (bG l=0):=hid (by rw[HW.out,if_neg (fun h=>hn h.1)]);obtain rfl:n=0:=by omega
   have z0:((0:Nat):Int)=0:=rfl;go_enter Tryz.func257,Tryz.ntmps257;go_wp2_with fail;refine C.out.mono ?_;rintro e w1 ⟨rfl,hb1⟩;have B1:=hid hb1;clear hb1;go_wp2_with fail;refine(D.out _ B1.out).mono ?_;rintro e w2 ⟨a2,n2,c2,rfl,hb2⟩;have B2:=hid (aO B1.out hb2);clear hb2;go_wp2_with fail;refine(rA _ _ _ _).mono ?_;rintro e w3 ⟨p3,rfl,hb3⟩;have c0:=Below.at hb3 (show World.cell? _ ⟨w2.heap.size,1,none⟩=some (.pointer none) by go_cell) (by simp);have f0:w3.frozen? ⟨w2.heap.size,1,none⟩=false:=by rw[hb3.frozen (by simp)];simp
   have B3:=hid (dE B2.out hb3);have Z3:Hid (w.heap.size<=w2.heap.size):=hid B2.out.size;clear hb3;go_wp2_with fail
   go_ret2
   exact⟨some ⟨w2.heap.size,0,none⟩,by rw[HE2.out];rfl,B3.out.setCell Z3.out _⟩
 ·have HE2:Hid (bG l=bB l):=hid (by unfold bG;rw[if_neg h0]);rw[HE2.out];clear HE2;generalize bB l=r at *
  have hne:(r==0)=false:=by simp[h0]
  have hne':(r != 0)=true:=by simp[h0]
  go_enter Tryz.func257,Tryz.ntmps257;go_wp2_with fail;refine C.out.mono ?_;rintro e w1 ⟨rfl,hb1⟩;have B1:=hid hb1;clear hb1;go_wp2_with fail
  go_ret2
  exact⟨none,rfl,B1.out⟩

structure gR where
 o:Int
 w:List bP
 c:List bP
deriving DecidableEq
def cF (k:gR):Int:=if k.o<0\/604800<=k.o then 2 else if bG k.w≠0 then bG k.w else bB k.c
structure cD (w:World)(k:gR)(wa:Option Addr)(wn wc:Nat)(ca:Option Addr)(cn cc:Nat):Prop where
 rw:aU w 2 (.slice wa wn wc) (k.w.map spV)
 rc:aU w 2 (.slice ca cn cc) (k.c.map spV)
 lw:k.w.length=wn
 lc:k.c.length=cn
 sw:wn<=2147483648
 sc:cn<=2147483648
theorem cD.below {w w':World}{k:gR}{wa:Option Addr}{wn wc:Nat}{ca:Option Addr}{cn cc:Nat}(h:cD w k wa wn wc ca cn cc)(hb:Below w.heap.size w w'):cD w' k wa wn wc ca cn cc:=⟨h.rw.below hb,h.rc.below hb,h.lw,h.lc,h.sw,h.sc⟩
theorem uU (k:gR)(wa:Option Addr)(wn wc:Nat)(ca:Option Addr)(cn cc:Nat)(w:World)(h:cD w k wa wn wc ca cn cc) :
  Calls Tryz.prog 187 #[.agg #[.int .i64 k.o,.slice wa wn wc,.slice ca cn cc]] w fun e w'=>∃p,e = .returned (.tuple #[.pointer p,.int .i64 (cF k)])/\Below w.heap.size w w':=by
 have C:=hid fun v hb=>zQ k.w wa wn wc v (h.below hb).rw h.lw h.sw;have D:=hid fun v hb=>zK k.c ca cn cc v (h.below hb).rc h.lc h.sc;obtain⟨o,lw,lc⟩:=k;simp only at C D ⊢;clear h;have HK:Hid (cF ⟨o,lw,lc⟩=if o<0\/604800<=o then 2 else if bG lw≠0 then bG lw else bB lc):=hid rfl;have AL:Hid (∀o1:Obj,Below w.heap.size w (w.alloc o1)):=hid fun o1=>(Below.refl _ _).alloc (Nat.le_refl _) _;by_cases h1:o<0
 ·have HE:Hid (cF ⟨o,lw,lc⟩=2):=hid (by rw[HK.out,if_pos (.inl h1)]);go_enter Tryz.func187,Tryz.ntmps187;go_wp2_with fail
  go_ret2
  first|exact⟨none,by rw[HE.out];rfl,AL.out _⟩|exact⟨⟨none,by rw[HE.out];rfl⟩,AL.out _⟩
 ·by_cases h2:604800<=o
  ·have HE:Hid (cF ⟨o,lw,lc⟩=2):=hid (by rw[HK.out,if_pos (.inr h2)]);go_enter Tryz.func187,Tryz.ntmps187;go_wp2_with fail
   go_ret2
   first|exact⟨none,by rw[HE.out];rfl,AL.out _⟩|exact⟨⟨none,by rw[HE.out];rfl⟩,AL.out _⟩
  ·by_cases h3:bG lw=0
   ·have HE:Hid (cF ⟨o,lw,lc⟩=bB lc):=hid (by rw[HK.out,if_neg (fun h=>h.elim h1 h2),if_neg (fun h=>h h3)]);rw[h3]at C;rw[HE.out];clear HK HE h3;go_enter Tryz.func187,Tryz.ntmps187;go_wp2_with fail;refine(C.out _ (AL.out _)).mono ?_;rintro e w1 ⟨p1,rfl,hb1⟩;have c0:=Below.at hb1 (show World.cell? _ ⟨w.heap.size,0,none⟩=some (.int .i64 o) by go_cell) (by simp);have c2:=Below.at hb1 (show World.cell? _ ⟨w.heap.size,2,none⟩=some (.slice ca cn cc) by go_cell) (by simp);have B1:=hid (aO (AL.out _) hb1);have L1:Hid (w.heap.size<w1.heap.size):=hid (by have:=hb1.size;simp only[World.size_alloc]at this;omega);clear hb1;have C0:=hid c0;go_wp2_with fail;refine(D.out _ B1.out).mono ?_;rintro e w2 ⟨p2,rfl,hb2⟩;have c0:=Below.at hb2 C0.out L1.out;have B2:=hid (aO B1.out hb2);clear hb2 c2;by_cases h4:bB lc=0
    ·have H4:=hid h4;rw[h4];clear h4;go_wp2_with fail
     go_ret2
     exact⟨some ⟨w2.heap.size,0,none⟩,by rw[H4.out];rfl,B2.out.alloc B2.out.size _⟩
    ·obtain⟨r,hr⟩:∃r,r=bB lc:=⟨_,rfl⟩;rw[<- hr]at h4 ⊢;have H4:=hid hr;have hne:(r==0)=false:=by simp[h4]
     have hne':(r != 0)=true:=by simp[h4]
     clear hr;go_wp2_with fail
     go_ret2
     exact⟨none,by rw[<- H4.out];rfl,B2.out⟩
   ·have HE:Hid (cF ⟨o,lw,lc⟩=bG lw):=hid (by rw[HK.out,if_neg (fun h=>h.elim h1 h2),if_pos h3]);rw[HE.out];clear HK HE;generalize bG lw=r at *
    have hne:(r==0)=false:=by simp[h3]
    have hne':(r != 0)=true:=by simp[h3]
    go_enter Tryz.func187,Tryz.ntmps187;go_wp2_with fail;refine(C.out _ (AL.out _)).mono ?_;rintro e w1 ⟨p1,rfl,hb1⟩;have B1:=hid (aO (AL.out _) hb1);clear hb1;go_wp2_with fail
    go_ret2
    first|exact⟨none,rfl,B1.out⟩|exact⟨⟨none,rfl⟩,B1.out⟩
theorem kU (k:gR)(wa:Option Addr)(wn wc:Nat)(ca:Option Addr)(cn cc:Nat)(w:World)(h:cD w k wa wn wc ca cn cc) :
  Calls Tryz.prog 136 #[.agg #[.int .i64 k.o,.slice wa wn wc,.slice ca cn cc]] w fun e w'=>e = .returned (.int .i64 (cF k))/\Below w.heap.size w w':=by
 have C:=hid fun v hb=>uU k wa wn wc ca cn cc v (h.below hb);clear h;go_enter Tryz.func136,Tryz.ntmps136;go_wp2_with fail;refine(C.out _ ((Below.refl _ _).alloc (Nat.le_refl _) _)).mono ?_;rintro e w1 ⟨p1,rfl,hb1⟩;have B1:=hid (dE (Below.refl _ _) hb1);clear hb1;go_wp2_with fail;go_ret;exact⟨rfl,B1.out⟩

theorem xX:∀ {l:List bP}{e:Int},rowE e l=true -> ∀x ∈ l,e<=x.t
 | [],_,_,x,hx=>by cases hx
 | s::l,e,h,x,hx=>by
  simp only[rowE,fS,Bool.and_eq_true,decide_eq_true_eq]at h;rcases List.mem_cons.1 hx with rfl|hx
  ·omega
  ·have:=xX h.2 x hx;omega
theorem xY:∀ {l:List bP}{e:Int},rowE e l=true->l.Pairwise fun a b=>a.t<=b.t
 | [],_,_=>.nil
 | s::l,e,h=>by
  simp only[rowE,Bool.and_eq_true]at h;exact .cons (xX h.2) (xY h.2)
theorem aAL {l:List bP}(h:bB l=0){j:Nat}(hj:j<l.length):l[j].t<=endOf l l.length:=by
 have hr:rowE 0 l=true:=by
  unfold bB at h;split at h
  ·cases h
  ·split at h
   ·assumption
   ·cases h
 obtain⟨k,hk⟩:∃k,l.length=k+1:=⟨l.length-1,by omega⟩;have hkl:k<l.length:=by omega
 have e:endOf l l.length=l[k].t:=by rw[hk];simp[endOf,List.getD_eq_getElem?_getD,hkl]
 rw[e];by_cases q:j=k
 ·subst q;exact Int.le_refl _
 ·exact List.pairwise_iff_getElem.1 (xY hr) j k hj hkl (by omega)
theorem aAK {l:List bP}{k:Nat}(hk:k<l.length):endOf l (k+1)=l[k].t:=by simp[endOf,List.getD_eq_getElem?_getD,hk]
theorem wV (l:List bP)(a:Option Addr)(n c:Nat)(w:World)(hr:aU w 2 (.slice a n c) (l.map spV))(hln:l.length=n)(hl:n<=2147483648) :
  Calls Tryz.prog 190 #[.slice a n c] w fun e w'=>e = .returned (.int .i64 (bG l))/\Below w.heap.size w w':=by
 have HR:=hid hr;have HL:=hid hln;have C:=hid (vH l a n c w hr hln (by unfold maxLen;omega));clear hr hln;by_cases h0:bB l=0
 ·rw[h0]at C;have H0:=hid h0;have HW:Hid (bG l=if 0<n/\604800<endOf l n then 2 else 0):=hid (by unfold bG;rw[if_pos h0,HL.out]);clear h0;go_enter Tryz.func190,Tryz.ntmps190;go_wp2_with fail;refine C.out.mono ?_;rintro e w1 ⟨rfl,hb1⟩;have B1:=hid hb1;clear hb1;go_wp2_with fail
  go_loopw [4] (fun i wr=>∃(j:Nat),i = .int .i64 j/\j<=n/\(∀k,k<j -> ∀h:k<l.length,l[k].t<=604800)/\Below w.heap.size w wr) (fun i _=>n-(intOf i).toNat)
  case atStart=>exact⟨0,rfl,Nat.zero_le _,fun k hk=>absurd hk (Nat.not_lt_zero k),B1.out⟩
  case round =>
   obtain⟨j,rfl,hj,hrow,hb⟩:=hrel;have HB:=hid hb;have HS:=hid hrow;clear hb hrow;by_cases hlt:j<n
   ·have hjl:j<l.length:=by have:=HL.out;omega
    obtain⟨b,o,rfl,hbl,_,x1⟩:=HR.out.sp hjl;have x1:=aI HB.out x1 hbl;have HG:Hid (l[j].t<=endOf l n):=hid (by rw[<- HL.out];exact aAL H0.out hjl);have HN:Hid (∀t,l[j].t=t->t<=604800 -> ∀k,k<j+1 -> ∀h:k<l.length,l[k].t<=604800):=hid fun t ht ht2 k hk h=>by
     by_cases q:k=j
     ·subst q;rw[ht];exact ht2
     ·exact HS.out k (by omega) h
    obtain⟨t,ht⟩:∃t,l[j].t=t:=⟨_,rfl⟩;rw[ht]at x1 HG;have HT:=hid ht;clear ht;by_cases hw:604800<t
    ·have HE2:Hid (bG l=2):=hid (by rw[HW.out,if_pos ⟨by omega,Int.lt_of_lt_of_le hw HG.out⟩]);have hd:decide (604800<t)=true:=decide_eq_true hw;go_wp2_with fail;go_ret;exact⟨by rw[HE2.out];rfl,HB.out⟩
    ·have HS2:=hid (HN.out t HT.out (by omega));have hd:decide (604800<t)=false:=decide_eq_false hw;go_wp2_with fail
     go_roundw
     case rel=>exact⟨j+1,by first|rfl|go_num,by omega,HS2.out,HB.out⟩
     all_goals (show n-((j:Int)+1).toNat<n-((j:Int)).toNat;omega)
   ·obtain rfl:j=n:=by omega
    have HE2:Hid (bG l=0):=hid (by
     rw[HW.out];refine if_neg fun h=>?_;obtain⟨k,hk⟩:∃k,j=k+1:=⟨j-1,by omega⟩;have hkl:k<l.length:=by have:=HL.out;omega
     have:=HS.out k (by omega) hkl;rw[hk,aAK hkl]at h;omega)
    go_wp2_with fail;go_ret;exact⟨by rw[HE2.out];rfl,HB.out⟩
 ·have HE2:Hid (bG l=bB l):=hid (by unfold bG;rw[if_neg h0]);rw[HE2.out];clear HE2;generalize bB l=r at *
  have hne:(r==0)=false:=by simp[h0]
  have hne':(r != 0)=true:=by simp[h0]
  go_enter Tryz.func190,Tryz.ntmps190;go_wp2_with fail;refine C.out.mono ?_;rintro e w1 ⟨rfl,hb1⟩;have B1:=hid hb1;clear hb1;go_wp2_with fail;go_ret;exact⟨rfl,B1.out⟩
theorem kW (k:gR)(wa:Option Addr)(wn wc:Nat)(ca:Option Addr)(cn cc:Nat)(w:World)(h:cD w k wa wn wc ca cn cc) :
  Calls Tryz.prog 140 #[.agg #[.int .i64 k.o,.slice wa wn wc,.slice ca cn cc]] w fun e w'=>e = .returned (.int .i64 (cF k))/\Below w.heap.size w w':=by
 have C:=hid fun v hb=>wV k.w wa wn wc v (h.below hb).rw h.lw h.sw;have D:=hid fun v hb=>vH k.c ca cn cc v (h.below hb).rc h.lc (by have:=h.sc;unfold maxLen;omega);obtain⟨o,lw,lc⟩:=k;simp only at C D ⊢;clear h;have HK:Hid (cF ⟨o,lw,lc⟩=if o<0\/604800<=o then 2 else if bG lw≠0 then bG lw else bB lc):=hid rfl;have AL:Hid (∀o1:Obj,Below w.heap.size w (w.alloc o1)):=hid fun o1=>(Below.refl _ _).alloc (Nat.le_refl _) _;by_cases h1:o<0
 ·have HE:Hid (cF ⟨o,lw,lc⟩=2):=hid (by rw[HK.out,if_pos (.inl h1)]);go_enter Tryz.func140,Tryz.ntmps140;go_wp2_with fail;go_ret;exact⟨by rw[HE.out];rfl,AL.out _⟩
 ·by_cases h2:604800<=o
  ·have HE:Hid (cF ⟨o,lw,lc⟩=2):=hid (by rw[HK.out,if_pos (.inr h2)]);go_enter Tryz.func140,Tryz.ntmps140;go_wp2_with fail;go_ret;exact⟨by rw[HE.out];rfl,AL.out _⟩
  ·by_cases h3:bG lw=0
   ·have HE:Hid (cF ⟨o,lw,lc⟩=bB lc):=hid (by rw[HK.out,if_neg (fun h=>h.elim h1 h2),if_neg (fun h=>h h3)]);rw[h3]at C;rw[HE.out];clear HK HE h3;go_enter Tryz.func140,Tryz.ntmps140;go_wp2_with fail;refine(C.out _ (AL.out _)).mono ?_;rintro e w1 ⟨rfl,hb1⟩;have c2:=Below.at hb1 (show World.cell? _ ⟨w.heap.size,2,none⟩=some (.slice ca cn cc) by go_cell) (by simp);have B1:=hid (aO (AL.out _) hb1);clear hb1;go_wp2_with fail;refine(D.out _ B1.out).mono ?_;rintro e w2 ⟨rfl,hb2⟩;have B2:=hid (aO B1.out hb2);clear hb2;go_wp2_with fail;go_ret;exact⟨rfl,B2.out⟩
   ·have HE:Hid (cF ⟨o,lw,lc⟩=bG lw):=hid (by rw[HK.out,if_neg (fun h=>h.elim h1 h2),if_pos h3]);rw[HE.out];clear HK HE;generalize bG lw=r at *
    have hne:(r==0)=false:=by simp[h3]
    have hne':(r != 0)=true:=by simp[h3]
    go_enter Tryz.func140,Tryz.ntmps140;go_wp2_with fail;refine(C.out _ (AL.out _)).mono ?_;rintro e w1 ⟨rfl,hb1⟩;have B1:=hid (aO (AL.out _) hb1);clear hb1;go_wp2_with fail;go_ret;exact⟨rfl,B1.out⟩

theorem nF (l m:List bP)(a a2:Option Addr)(n n2 c c2:Nat)(w:World)(hr:aU w 2 (.slice a n c) (l.map spV))(hr2:aU w 2 (.slice a2 n2 c2) (m.map spV))(hln:l.length=n)(hln2:m.length=n2)(hl:n<=maxLen) :
  Calls Tryz.prog 142 #[.slice a n c,.slice a2 n2 c2] w fun e w'=>e = .returned (.bool (decide (l=m)))/\Below w.heap.size w w':=by
 have C:=hid (aIx l m a a2 n n2 c c2 w hr hr2 hln hln2 hl);clear hr hr2;generalize decide (l=m)=r at *
 go_enter Tryz.func142,Tryz.ntmps142;go_wp2_with fail;refine C.out.mono ?_;rintro e w1 ⟨rfl,hb1⟩;have B1:=hid hb1;clear hb1;go_wp2_with fail;go_ret;exact⟨rfl,B1.out⟩
theorem sQ (k k2:gR)(wa:Option Addr)(wn wc:Nat)(ca:Option Addr)(cn cc:Nat)(wa2:Option Addr)(wn2 wc2:Nat)(ca2:Option Addr)(cn2 cc2:Nat)(w:World)(h:cD w k wa wn wc ca cn cc)(h2:cD w k2 wa2 wn2 wc2 ca2 cn2 cc2) :
  Calls Tryz.prog 97 #[.agg #[.int .i64 k.o,.slice wa wn wc,.slice ca cn cc],.agg #[.int .i64 k2.o,.slice wa2 wn2 wc2,.slice ca2 cn2 cc2]] w fun e w'=>e = .returned (.bool (decide (k=k2)))/\Below w.heap.size w w':=by
 have C:=hid fun v hb=>nF k.w k2.w wa wa2 wn wn2 wc wc2 v (h.below hb).rw (h2.below hb).rw h.lw h2.lw (by have:=h.sw;unfold maxLen;omega);have D:=hid fun v hb=>nF k.c k2.c ca ca2 cn cn2 cc cc2 v (h.below hb).rc (h2.below hb).rc h.lc h2.lc (by have:=h.sc;unfold maxLen;omega);obtain⟨o,lw,lc⟩:=k;obtain⟨o2,lw2,lc2⟩:=k2;simp only at C D ⊢;clear h h2;have AL:Hid (Below w.heap.size w ((w.alloc (.cells #[.int .i64 o,.slice wa wn wc,.slice ca cn cc] 68)).alloc (.cells #[.int .i64 o2,.slice wa2 wn2 wc2,.slice ca2 cn2 cc2] 68))):=hid (((Below.refl _ _).alloc (Nat.le_refl _) _).alloc (by simp) _);by_cases h1:o=o2
 ·subst h1;by_cases h3:lw=lw2
  ·have HE:Hid (decide ((⟨o,lw,lc⟩:gR)=⟨o,lw2,lc2⟩)=decide (lc=lc2)):=hid (by simp[h3]);rw[HE.out];rw[decide_eq_true h3]at C;clear HE h3;generalize decide (lc=lc2)=r at *
   go_enter Tryz.func97,Tryz.ntmps97;go_wp2_with fail;refine(C.out _ AL.out).mono ?_;rintro e w1 ⟨rfl,hb1⟩;have k2:=Below.at hb1 (show World.cell? _ ⟨w.heap.size,2,none⟩=some (.slice ca cn cc) by go_cell) (by simp only[World.size_alloc];omega);have k3:=Below.at hb1 (show World.cell? _ ⟨w.heap.size+1,2,none⟩=some (.slice ca2 cn2 cc2) by go_cell) (by simp only[World.size_alloc];omega);have B1:=hid (aO AL.out hb1);clear hb1;go_wp2_with fail;refine(D.out _ B1.out).mono ?_;rintro e w2 ⟨rfl,hb2⟩;have B2:=hid (aO B1.out hb2);clear hb2;go_wp2_with fail;go_ret;exact⟨by cases r<;>rfl,B2.out⟩
  ·have HE:Hid (decide ((⟨o,lw,lc⟩:gR)=⟨o,lw2,lc2⟩)=false):=hid (by simp[h3]);rw[HE.out];rw[decide_eq_false h3]at C;clear HE h3;go_enter Tryz.func97,Tryz.ntmps97;go_wp2_with fail;refine(C.out _ AL.out).mono ?_;rintro e w1 ⟨rfl,hb1⟩;have B1:=hid (aO AL.out hb1);clear hb1;go_wp2_with fail;go_ret;exact⟨rfl,B1.out⟩
 ·have HE:Hid (decide ((⟨o,lw,lc⟩:gR)=⟨o2,lw2,lc2⟩)=false):=hid (by simp[h1]);rw[HE.out];clear HE;go_enter Tryz.func97,Tryz.ntmps97;go_wp2_with fail;go_ret;exact⟨rfl,AL.out⟩
theorem sW (k k2:gR)(wa:Option Addr)(wn wc:Nat)(ca:Option Addr)(cn cc:Nat)(wa2:Option Addr)(wn2 wc2:Nat)(ca2:Option Addr)(cn2 cc2:Nat)(w:World)(h:cD w k wa wn wc ca cn cc)(h2:cD w k2 wa2 wn2 wc2 ca2 cn2 cc2) :
  Calls Tryz.prog 126 #[.agg #[.int .i64 k.o,.slice wa wn wc,.slice ca cn cc],.agg #[.int .i64 k2.o,.slice wa2 wn2 wc2,.slice ca2 cn2 cc2]] w fun e w'=>e = .returned (.bool (decide (k=k2)))/\Below w.heap.size w w':=by
 have C:=hid fun v hb=>pM k.w k2.w wa wa2 wn wn2 wc wc2 v (h.below hb).rw (h2.below hb).rw h.lw h2.lw (by have:=h.sw;unfold maxLen;omega);have D:=hid fun v hb=>pM k.c k2.c ca ca2 cn cn2 cc cc2 v (h.below hb).rc (h2.below hb).rc h.lc h2.lc (by have:=h.sc;unfold maxLen;omega);obtain⟨o,lw,lc⟩:=k;obtain⟨o2,lw2,lc2⟩:=k2;simp only at C D ⊢;clear h h2;have AL:Hid (Below w.heap.size w ((w.alloc (.cells #[.int .i64 o,.slice wa wn wc,.slice ca cn cc] 68)).alloc (.cells #[.int .i64 o2,.slice wa2 wn2 wc2,.slice ca2 cn2 cc2] 68))):=hid (((Below.refl _ _).alloc (Nat.le_refl _) _).alloc (by simp) _);by_cases h1:o=o2
 ·subst h1;by_cases h3:lw=lw2
  ·have HE:Hid (decide ((⟨o,lw,lc⟩:gR)=⟨o,lw2,lc2⟩)=decide (lc=lc2)):=hid (by simp[h3]);rw[HE.out];rw[decide_eq_true h3]at C;clear HE h3;generalize decide (lc=lc2)=r at *
   go_enter Tryz.func126,Tryz.ntmps126;go_wp2_with fail;refine(C.out _ AL.out).mono ?_;rintro e w1 ⟨rfl,hb1⟩;have k2:=Below.at hb1 (show World.cell? _ ⟨w.heap.size,2,none⟩=some (.slice ca cn cc) by go_cell) (by simp only[World.size_alloc];omega);have k3:=Below.at hb1 (show World.cell? _ ⟨w.heap.size+1,2,none⟩=some (.slice ca2 cn2 cc2) by go_cell) (by simp only[World.size_alloc];omega);have B1:=hid (aO AL.out hb1);clear hb1;go_wp2_with fail;refine(D.out _ B1.out).mono ?_;rintro e w2 ⟨rfl,hb2⟩;have B2:=hid (aO B1.out hb2);clear hb2;go_wp2_with fail;go_ret;exact⟨by cases r<;>rfl,B2.out⟩
  ·have HE:Hid (decide ((⟨o,lw,lc⟩:gR)=⟨o,lw2,lc2⟩)=false):=hid (by simp[h3]);rw[HE.out];rw[decide_eq_false h3]at C;clear HE h3;go_enter Tryz.func126,Tryz.ntmps126;go_wp2_with fail;refine(C.out _ AL.out).mono ?_;rintro e w1 ⟨rfl,hb1⟩;have B1:=hid (aO AL.out hb1);clear hb1;go_wp2_with fail;go_ret;exact⟨rfl,B1.out⟩
 ·have HE:Hid (decide ((⟨o,lw,lc⟩:gR)=⟨o2,lw2,lc2⟩)=false):=hid (by simp[h1]);rw[HE.out];clear HE;go_enter Tryz.func126,Tryz.ntmps126;go_wp2_with fail;go_ret;exact⟨rfl,AL.out⟩

structure iJ where
 c:Int
 l:List bP
 r:Int
 b:Int
deriving DecidableEq
def dW (s:bP):Bool:=decide (1<=s.f/\s.f<=1125899906842624)&&decide (0<=s.t/\s.t<=7)
def eD (k:iJ):Bool:=decide (0<=k.c/\k.c<=7)&&(decide (1<=k.l.length/\k.l.length<=6)&&(decide (1<=k.r/\k.r<=8)&&(decide (1<=k.b/\k.b<=1048576)&&k.l.all dW)))
structure bZ (w:World)(k:iJ)(la:Option Addr)(ln lc:Nat):Prop where
 rl:aU w 2 (.slice la ln lc) (k.l.map spV)
 ll:k.l.length=ln
 sl:ln<=2147483648
theorem bZ.below {w w':World}{k:iJ}{la:Option Addr}{ln lc:Nat}(h:bZ w k la ln lc)(hb:Below w.heap.size w w'):bZ w' k la ln lc:=⟨h.rl.below hb,h.ll,h.sl⟩
theorem aN (n lo hi:Int)(w:World):Calls Tryz.prog 188 #[.int .i64 n,.int .i64 lo,.int .i64 hi] w fun e w'=>e = .returned (.bool (decide (lo<=n/\n<=hi)))/\w'=w:=by
 by_cases h1:lo<=n
 ·by_cases h2:n<=hi
  ·have HE:Hid (decide (lo<=n/\n<=hi)=true):=hid (decide_eq_true ⟨h1,h2⟩);rw[HE.out];clear HE;go_enter Tryz.func188,Tryz.ntmps188;go_wp2_with fail;go_ret;exact⟨rfl,rfl⟩
  ·have HE:Hid (decide (lo<=n/\n<=hi)=false):=hid (decide_eq_false fun h=>h2 h.2);rw[HE.out];clear HE;go_enter Tryz.func188,Tryz.ntmps188;go_wp2_with fail;go_ret;exact⟨rfl,rfl⟩
 ·have HE:Hid (decide (lo<=n/\n<=hi)=false):=hid (decide_eq_false fun h=>h1 h.1);rw[HE.out];clear HE;go_enter Tryz.func188,Tryz.ntmps188;go_wp2_with fail;go_ret;exact⟨rfl,rfl⟩
theorem kP {l:List bP}{j:Nat}(hj:j<l.length)(h:(l.take j).all dW=true)(k:dW l[j]=true):(l.take (j+1)).all dW=true:=by
 rw[List.take_succ_eq_append_getElem hj,List.all_append,h,List.all_cons,k];rfl
theorem all_false {l:List bP}{j:Nat}(hj:j<l.length)(k:dW l[j]=false):l.all dW=false:=by
 cases e:l.all dW with
 | false=>rfl
 | true=>rw[List.all_eq_true.1 e _ (List.getElem_mem hj)]at k;cases k
theorem uW (l m:List bP)(a a2:Option Addr)(n n2 c c2:Nat)(w:World)(hr:aU w 2 (.slice a n c) (l.map spV))(hr2:aU w 2 (.slice a2 n2 c2) (m.map spV))(hln:l.length=n)(hln2:m.length=n2)(hl:n<=maxLen) :
  Calls Tryz.prog 143 #[.slice a n c,.slice a2 n2 c2] w fun e w'=>e = .returned (.bool (decide (l=m)))/\Below w.heap.size w w':=by
 unfold maxLen at hl;have HR:=hid hr;have HL:=hid hln;have HR2:=hid hr2;have HL2:=hid hln2;clear hr hln hr2 hln2;by_cases hnn:n=n2
 ·subst hnn;go_enter Tryz.func143,Tryz.ntmps143;go_wp2_with fail
  go_loopw [13] (fun i wr=>∃(j:Nat),i = .int .i64 j/\j<=n/\l.take j=m.take j/\Below w.heap.size w wr) (fun i _=>n-(intOf i).toNat)
  case atStart=>exact⟨0,rfl,Nat.zero_le _,rfl,Below.refl _ _⟩
  case round =>
   obtain⟨j,rfl,hj,hrow,hb⟩:=hrel;have HB:=hid hb;have HW:=hid hrow;clear hb hrow;by_cases hlt:j<n
   ·have hjl:j<l.length:=by have:=HL.out;omega
    have hjm:j<m.length:=by have:=HL2.out;omega
    obtain⟨b,o,rfl,hbl,x0,x1⟩:=HR.out.sp hjl;obtain⟨b2,o2,rfl,hbl2,y0,y1⟩:=HR2.out.sp hjm;have x0:=aI HB.out x0 hbl;have x1:=aI HB.out x1 hbl;have y0:=aI HB.out y0 hbl2;have y1:=aI HB.out y1 hbl2;by_cases he:l[j]=m[j]
    ·have HT:Hid (l.take (j+1)=m.take (j+1)):=hid (eW HW.out hjl hjm he);rw[<- he]at y0 y1;generalize l[j]=s at x0 x1 y0 y1;obtain⟨f,t⟩:=s;simp only at x0 x1 y0 y1;go_wp2_with fail
     go_quiet (fail)
     go_wp2_with fail
     go_roundw
     case rel=>exact⟨j+1,by first|rfl|go_num,by omega,HT.out,HB.out.trans ((Below.drewN _ _).mono HB.out.size)⟩
     all_goals (show n-((j:Int)+1).toNat<n-((j:Int)).toNat;omega)
    ·have HE:Hid (decide (l=m)=false):=hid (decide_eq_false fun h=>he (by subst h;rfl));generalize l[j]=s at x0 x1 he;generalize m[j]=s2 at y0 y1 he;obtain⟨f,t⟩:=s;obtain⟨f2,t2⟩:=s2;simp only at x0 x1 y0 y1;have HN:Hid ((f==f2&&t==t2)=false):=hid (by
      rw[Bool.eq_false_iff];intro h;simp only[Bool.and_eq_true,beq_iff_eq]at h;exact he (by rw[h.1,h.2]))
     by_cases h1:f=f2
     ·have h2:¬t=t2:=fun e=>he (by rw[h1,e]);have bx:(f==f2)=true:=by simp[h1]
      have by':(t==t2)=false:=by simp[h2]
      clear he h1 h2;go_wp2_with fail
      go_quiet (fail)
      go_wp2_with fail;go_ret;exact⟨by rw[HE.out];rfl,HB.out.trans ((Below.drewN _ _).mono HB.out.size)⟩
     ·have bx:(f==f2)=false:=by simp[h1]
      clear he h1;go_wp2_with fail
      go_quiet (fail)
      go_wp2_with fail;go_ret;exact⟨by rw[HE.out];rfl,HB.out.trans ((Below.drewN _ _).mono HB.out.size)⟩
   ·obtain rfl:j=n:=by omega
    have HE:Hid (decide (l=m)=true):=hid (decide_eq_true (by
     have:=HW.out
     rwa [List.take_of_length_le (by rw[HL.out];exact Nat.le_refl _),List.take_of_length_le (by rw[HL2.out];exact Nat.le_refl _)]at this))
    go_wp2_with fail;go_ret;exact⟨by rw[HE.out];rfl,HB.out⟩
 ·have HE:Hid (decide (l=m)=false):=hid (decide_eq_false fun h=>hnn (by rw[<- HL.out,<- HL2.out,h]));have hni:¬(n:Int)=(n2:Int):=by omega
  go_enter Tryz.func143,Tryz.ntmps143;go_wp2_with fail;go_ret;exact⟨by rw[HE.out];rfl,Below.refl _ _⟩
theorem kV (k:iJ)(la:Option Addr)(ln lc:Nat)(w:World)(h:bZ w k la ln lc) :
  Calls Tryz.prog 137 #[.agg #[.int .i64 k.c,.slice la ln lc,.int .i64 k.r,.int .i64 k.b]] w fun e w'=>e = .returned (.int .i64 (if eD k then 0 else 2))/\Below w.heap.size w w':=by
 obtain⟨c,l,r,b⟩:=k;have HR:=hid h.rl;have HL:=hid h.ll;have hsm:=h.sl;simp only at HR HL ⊢;clear h;have AL:Hid (∀o1:Obj,Below w.heap.size w (w.alloc o1)):=hid fun o1=>(Below.refl _ _).alloc (Nat.le_refl _) _;have HK:Hid (eD ⟨c,l,r,b⟩=(decide (0<=c/\c<=7)&&(decide (1<=l.length/\l.length<=6)&&(decide (1<=r/\r<=8)&&(decide (1<=b/\b<=1048576)&&l.all dW))))):=hid rfl;have HLL:Hid (decide (1<=l.length/\l.length<=6)=decide (1<=(ln:Int)/\(ln:Int)<=6)):=hid (by rw[HL.out];exact decide_eq_decide.2 (by omega));cases hc:decide (0<=c/\c<=7) with
 | false =>
  have HE:Hid ((if eD ⟨c,l,r,b⟩ then (0:Int) else 2)=2):=hid (by rw[HK.out,hc];simp);rw[HE.out];clear HE;go_enter Tryz.func137,Tryz.ntmps137;go_wp2_with fail;refine(aN c 0 7 _).mono ?_;rintro e w1 ⟨rfl,rfl⟩;rw[hc];go_wp2_with fail;go_ret;exact⟨rfl,AL.out _⟩
 | true =>
  cases hl:decide (1<=(ln:Int)/\(ln:Int)<=6) with
  | false =>
   have HE:Hid ((if eD ⟨c,l,r,b⟩ then (0:Int) else 2)=2):=hid (by rw[HK.out,hc,HLL.out,hl];simp);rw[HE.out];clear HE;go_enter Tryz.func137,Tryz.ntmps137;go_wp2_with fail;refine(aN c 0 7 _).mono ?_;rintro e w1 ⟨rfl,rfl⟩;rw[hc];go_wp2_with fail;refine(aN (ln:Int) 1 6 _).mono ?_;rintro e w1 ⟨rfl,rfl⟩;rw[hl];go_wp2_with fail;go_ret;exact⟨rfl,AL.out _⟩
  | true =>
   cases hr:decide (1<=r/\r<=8) with
   | false =>
    have HE:Hid ((if eD ⟨c,l,r,b⟩ then (0:Int) else 2)=2):=hid (by rw[HK.out,hc,HLL.out,hl,hr];simp);rw[HE.out];clear HE;go_enter Tryz.func137,Tryz.ntmps137;go_wp2_with fail;refine(aN c 0 7 _).mono ?_;rintro e w1 ⟨rfl,rfl⟩;rw[hc];go_wp2_with fail;refine(aN (ln:Int) 1 6 _).mono ?_;rintro e w1 ⟨rfl,rfl⟩;rw[hl];go_wp2_with fail;refine(aN r 1 8 _).mono ?_;rintro e w1 ⟨rfl,rfl⟩;rw[hr];go_wp2_with fail;go_ret;exact⟨rfl,AL.out _⟩
   | true =>
    cases hb:decide (1<=b/\b<=1048576) with
    | false =>
     have HE:Hid ((if eD ⟨c,l,r,b⟩ then (0:Int) else 2)=2):=hid (by rw[HK.out,hc,HLL.out,hl,hr,hb];simp);rw[HE.out];clear HE;go_enter Tryz.func137,Tryz.ntmps137;go_wp2_with fail;refine(aN c 0 7 _).mono ?_;rintro e w1 ⟨rfl,rfl⟩;rw[hc];go_wp2_with fail;refine(aN (ln:Int) 1 6 _).mono ?_;rintro e w1 ⟨rfl,rfl⟩;rw[hl];go_wp2_with fail;refine(aN r 1 8 _).mono ?_;rintro e w1 ⟨rfl,rfl⟩;rw[hr];go_wp2_with fail;refine(aN b 1 1048576 _).mono ?_;rintro e w1 ⟨rfl,rfl⟩;rw[hb];go_wp2_with fail;go_ret;exact⟨rfl,AL.out _⟩
    | true =>
     have HE:Hid (eD ⟨c,l,r,b⟩=l.all dW):=hid (by rw[HK.out,hc,HLL.out,hl,hr,hb];rfl);rw[HE.out];obtain⟨R,hR⟩:∃R:Int,R=if l.all dW then 0 else 2:=⟨_,rfl⟩;rw[<- hR];have HRR:=hid hR;clear HE HK HLL hR;go_enter Tryz.func137,Tryz.ntmps137;go_wp2_with fail;refine(aN c 0 7 _).mono ?_;rintro e w1 ⟨rfl,rfl⟩;rw[hc];go_wp2_with fail;refine(aN (ln:Int) 1 6 _).mono ?_;rintro e w1 ⟨rfl,rfl⟩;rw[hl];go_wp2_with fail;refine(aN r 1 8 _).mono ?_;rintro e w1 ⟨rfl,rfl⟩;rw[hr];go_wp2_with fail;refine(aN b 1 1048576 _).mono ?_;rintro e w1 ⟨rfl,rfl⟩;rw[hb];go_wp2_with fail
     go_loopw [32] (fun i wr=>∃(j:Nat),i = .int .i64 j/\j<=ln/\(l.take j).all dW=true/\Below w.heap.size w wr) (fun i _=>ln-(intOf i).toNat)
     case atStart=>exact⟨0,rfl,Nat.zero_le _,rfl,AL.out _⟩
     case round =>
      obtain⟨j,rfl,hj,hrow,hbw⟩:=hrel;have HB:=hid hbw;have HW:=hid hrow;clear hbw hrow;by_cases hlt:j<ln
      ·have hjl:j<l.length:=by have:=HL.out;omega
       obtain⟨bb,oo,rfl,hbl,x0,x1⟩:=HR.out.sp hjl;have x0:=aI HB.out x0 hbl;have x1:=aI HB.out x1 hbl;have HT:=hid (kP hjl HW.out);have HF:=hid (all_false hjl);generalize l[j]=s at x0 x1 HT HF;obtain⟨f,t⟩:=s;simp only at x0 x1 HT HF;cases g1:decide (1<=f/\f<=1125899906842624) with
       | false =>
        have HE:Hid (l.all dW=false):=hid (HF.out (by simp only[dW,g1,Bool.false_and]));go_wp2_with fail;refine(aN f 1 1125899906842624 _).mono ?_;rintro e w1 ⟨rfl,rfl⟩;rw[g1];go_wp2_with fail;go_ret;exact⟨by rw[HRR.out,HE.out];rfl,HB.out.alloc HB.out.size _⟩
       | true =>
        cases g2:decide (0<=t/\t<=7) with
        | false =>
         have HE:Hid (l.all dW=false):=hid (HF.out (by simp only[dW,g1,g2,Bool.true_and]));go_wp2_with fail;refine(aN f 1 1125899906842624 _).mono ?_;rintro e w1 ⟨rfl,rfl⟩;rw[g1];go_wp2_with fail;refine(aN t 0 7 _).mono ?_;rintro e w1 ⟨rfl,rfl⟩;rw[g2];go_wp2_with fail;go_ret;exact⟨by rw[HRR.out,HE.out];rfl,HB.out.alloc HB.out.size _⟩
        | true =>
         have HT2:=hid (HT.out (by simp only[dW,g1,g2,Bool.true_and]));go_wp2_with fail;refine(aN f 1 1125899906842624 _).mono ?_;rintro e w1 ⟨rfl,rfl⟩;rw[g1];go_wp2_with fail;refine(aN t 0 7 _).mono ?_;rintro e w1 ⟨rfl,rfl⟩;rw[g2];go_wp2_with fail
         go_roundw
         case rel=>exact⟨j+1,by first|rfl|go_num,by omega,HT2.out,HB.out.alloc HB.out.size _⟩
         all_goals (show ln-((j:Int)+1).toNat<ln-((j:Int)).toNat;omega)
      ·obtain rfl:j=ln:=by omega
       have HE:Hid (l.all dW=true):=hid (by have:=HW.out;rwa [List.take_of_length_le (by rw[HL.out];exact Nat.le_refl _)]at this);go_wp2_with fail;go_ret;exact⟨by rw[HRR.out,HE.out];rfl,HB.out⟩

theorem rG (k:iJ)(la:Option Addr)(ln lc:Nat)(w:World)(h:bZ w k la ln lc) :
  Calls Tryz.prog 141 #[.agg #[.int .i64 k.c,.slice la ln lc,.int .i64 k.r,.int .i64 k.b]] w fun e w'=>e = .returned (.bool (eD k))/\Below w.heap.size w w':=by
 obtain⟨c,l,r,b⟩:=k;have HR:=hid h.rl;have HL:=hid h.ll;have hsm:=h.sl;simp only at HR HL ⊢;clear h;have AL:Hid (∀o1:Obj,Below w.heap.size w (w.alloc o1)):=hid fun o1=>(Below.refl _ _).alloc (Nat.le_refl _) _;have HK:Hid (eD ⟨c,l,r,b⟩=true ↔ ((0<=c/\c<=7)/\(1<=(ln:Int)/\(ln:Int)<=6)/\(1<=r/\r<=8)/\(1<=b/\b<=1048576)/\l.all dW=true)):=hid (by
  have:=HL.out;simp only[eD,Bool.and_eq_true,decide_eq_true_eq];constructor
  ·rintro⟨h1,h2,h3,h4,h5⟩;exact⟨h1,by omega,h3,h4,h5⟩
  ·rintro⟨h1,h2,h3,h4,h5⟩;exact⟨h1,by omega,h3,h4,h5⟩)
 obtain⟨R,hR⟩:∃R:Bool,R=eD ⟨c,l,r,b⟩:=⟨_,rfl⟩;rw[<- hR];have HRR:=hid hR;clear hR;by_cases q0:c<0
 ·have HE:Hid (R=false):=hid (by rw[HRR.out,Bool.eq_false_iff];intro h;have:=HK.out.1 h;omega);go_enter Tryz.func141,Tryz.ntmps141;go_wp2_with fail;go_ret;exact⟨by rw[HE.out];rfl,AL.out _⟩
 by_cases q1:7<c
 ·have HE:Hid (R=false):=hid (by rw[HRR.out,Bool.eq_false_iff];intro h;have:=HK.out.1 h;omega);go_enter Tryz.func141,Tryz.ntmps141;go_wp2_with fail;go_ret;exact⟨by rw[HE.out];rfl,AL.out _⟩
 by_cases q2:(ln:Int)<1
 ·have HE:Hid (R=false):=hid (by rw[HRR.out,Bool.eq_false_iff];intro h;have:=HK.out.1 h;omega);go_enter Tryz.func141,Tryz.ntmps141;go_wp2_with fail;go_ret;exact⟨by rw[HE.out];rfl,AL.out _⟩
 by_cases q3:6<(ln:Int)
 ·have HE:Hid (R=false):=hid (by rw[HRR.out,Bool.eq_false_iff];intro h;have:=HK.out.1 h;omega);go_enter Tryz.func141,Tryz.ntmps141;go_wp2_with fail;go_ret;exact⟨by rw[HE.out];rfl,AL.out _⟩
 by_cases q4:r<1
 ·have HE:Hid (R=false):=hid (by rw[HRR.out,Bool.eq_false_iff];intro h;have:=HK.out.1 h;omega);go_enter Tryz.func141,Tryz.ntmps141;go_wp2_with fail;go_ret;exact⟨by rw[HE.out];rfl,AL.out _⟩
 by_cases q5:8<r
 ·have HE:Hid (R=false):=hid (by rw[HRR.out,Bool.eq_false_iff];intro h;have:=HK.out.1 h;omega);go_enter Tryz.func141,Tryz.ntmps141;go_wp2_with fail;go_ret;exact⟨by rw[HE.out];rfl,AL.out _⟩
 by_cases q6:b<1
 ·have HE:Hid (R=false):=hid (by rw[HRR.out,Bool.eq_false_iff];intro h;have:=HK.out.1 h;omega);go_enter Tryz.func141,Tryz.ntmps141;go_wp2_with fail;go_ret;exact⟨by rw[HE.out];rfl,AL.out _⟩
 by_cases q7:1048576<b
 ·have HE:Hid (R=false):=hid (by rw[HRR.out,Bool.eq_false_iff];intro h;have:=HK.out.1 h;omega);go_enter Tryz.func141,Tryz.ntmps141;go_wp2_with fail;go_ret;exact⟨by rw[HE.out];rfl,AL.out _⟩
 have HE0:Hid (R=l.all dW):=hid (by
  rw[HRR.out,Bool.eq_iff_iff,HK.out];exact⟨fun h=>h.2.2.2.2,fun h=>⟨by omega,by omega,by omega,by omega,h⟩⟩)
 go_enter Tryz.func141,Tryz.ntmps141;go_wp2_with fail
 go_loopw [3] (fun i wr=>∃(j:Nat),i = .int .i64 j/\j<=ln/\(l.take j).all dW=true/\wr.cell? ⟨w.heap.size,1,none⟩=some (.slice la ln lc)/\Below w.heap.size w wr/\w.heap.size<wr.heap.size) (fun i _=>ln-(intOf i).toNat)
 case atStart=>exact⟨0,rfl,Nat.zero_le _,rfl,by go_cell,AL.out _,by simp⟩
 case round =>
  obtain⟨j,rfl,hj,hrow,k1,hbw,hsz⟩:=hrel;have HB:=hid hbw;have HW:=hid hrow;have K1:=hid k1;clear hbw hrow;by_cases hlt:j<ln
  ·have hjl:j<l.length:=by have:=HL.out;omega
   obtain⟨bb,oo,rfl,hbl,x0,x1⟩:=HR.out.sp hjl;have x0:=aI HB.out x0 hbl;have x1:=aI HB.out x1 hbl;have HT:=hid (kP hjl HW.out);have HF:=hid (all_false hjl);generalize l[j]=s at x0 x1 HT HF;obtain⟨f,t⟩:=s;simp only at x0 x1 HT HF;have HV:Hid (dW ⟨f,t⟩=true ↔ ((1<=f/\f<=1125899906842624)/\(0<=t/\t<=7))):=hid (by simp only[dW,Bool.and_eq_true,decide_eq_true_eq]);by_cases z0:f<1
   ·have HE:Hid (R=false):=hid (by rw[HE0.out];exact HF.out (by rw[Bool.eq_false_iff];intro h;have:=HV.out.1 h;omega));go_wp2_with fail;go_ret;exact⟨by rw[HE.out];rfl,HB.out.alloc HB.out.size _⟩
   by_cases z1:1125899906842624<f
   ·have HE:Hid (R=false):=hid (by rw[HE0.out];exact HF.out (by rw[Bool.eq_false_iff];intro h;have:=HV.out.1 h;omega));go_wp2_with fail;go_ret;exact⟨by rw[HE.out];rfl,HB.out.alloc HB.out.size _⟩
   by_cases z2:t<0
   ·have HE:Hid (R=false):=hid (by rw[HE0.out];exact HF.out (by rw[Bool.eq_false_iff];intro h;have:=HV.out.1 h;omega));go_wp2_with fail;go_ret;exact⟨by rw[HE.out];rfl,HB.out.alloc HB.out.size _⟩
   by_cases z3:7<t
   ·have HE:Hid (R=false):=hid (by rw[HE0.out];exact HF.out (by rw[Bool.eq_false_iff];intro h;have:=HV.out.1 h;omega));go_wp2_with fail;go_ret;exact⟨by rw[HE.out];rfl,HB.out.alloc HB.out.size _⟩
   have HT2:=hid (HT.out (HV.out.2 ⟨by omega,by omega⟩));go_wp2_with fail
   go_roundw
   case rel=>exact⟨j+1,by first|rfl|go_num,by omega,HT2.out,aL K1.out _,HB.out.alloc HB.out.size _,by simp only[World.size_alloc];omega⟩
   all_goals (show ln-((j:Int)+1).toNat<ln-((j:Int)).toNat;omega)
  ·obtain rfl:j=ln:=by omega
   have HE:Hid (l.all dW=true):=hid (by have:=HW.out;rwa [List.take_of_length_le (by rw[HL.out];exact Nat.le_refl _)]at this);go_wp2_with fail;go_ret;exact⟨by rw[HE0.out,HE.out];rfl,HB.out⟩

theorem sT (k k2:iJ)(la:Option Addr)(ln lc:Nat)(la2:Option Addr)(ln2 lc2:Nat)(w:World)(h:bZ w k la ln lc)(h2:bZ w k2 la2 ln2 lc2) :
  Calls Tryz.prog 98 #[.agg #[.int .i64 k.c,.slice la ln lc,.int .i64 k.r,.int .i64 k.b],.agg #[.int .i64 k2.c,.slice la2 ln2 lc2,.int .i64 k2.r,.int .i64 k2.b]] w fun e w'=>e = .returned (.bool (decide (k=k2)))/\Below w.heap.size w w':=by
 have C:=hid fun v hb=>uW k.l k2.l la la2 ln ln2 lc lc2 v (h.below hb).rl (h2.below hb).rl h.ll h2.ll (by have:=h.sl;unfold maxLen;omega);clear h h2;obtain⟨c,l,r,b⟩:=k;obtain⟨c2,l2,r2,b2⟩:=k2;have AL:Hid (∀o1 o2:Obj,Below w.heap.size w ((w.alloc o1).alloc o2)):=hid fun o1 o2=>((Below.refl _ _).alloc (Nat.le_refl _) _).alloc (by simp) _;have HK:Hid (decide ((⟨c,l,r,b⟩:iJ)=⟨c2,l2,r2,b2⟩)=true ↔ (c=c2/\l=l2/\r=r2/\b=b2)):=hid (by rw[decide_eq_true_iff];exact⟨fun h=>by cases h;exact⟨rfl,rfl,rfl,rfl⟩,fun ⟨h1,h2,h3,h4⟩=>by rw[h1,h2,h3,h4]⟩);obtain⟨R,hR⟩:∃R:Bool,R=decide ((⟨c,l,r,b⟩:iJ)=⟨c2,l2,r2,b2⟩):=⟨_,rfl⟩;rw[<- hR];rw[<- hR]at HK;clear hR;simp only at C;by_cases q0:c=c2
 case neg =>
  have HE:Hid (R=false):=hid (by rw[Bool.eq_false_iff];intro h;exact q0 ((HK.out.1 h).1));go_enter Tryz.func98,Tryz.ntmps98;go_wp2_with fail;go_ret;exact⟨by rw[HE.out];rfl,AL.out _ _⟩
 by_cases q1:r=r2
 case neg =>
  have HE:Hid (R=false):=hid (by rw[Bool.eq_false_iff];intro h;exact q1 ((HK.out.1 h).2.2.1));go_enter Tryz.func98,Tryz.ntmps98;go_wp2_with fail;go_ret;exact⟨by rw[HE.out];rfl,AL.out _ _⟩
 by_cases q2:b=b2
 case neg =>
  have HE:Hid (R=false):=hid (by rw[Bool.eq_false_iff];intro h;exact q2 ((HK.out.1 h).2.2.2));go_enter Tryz.func98,Tryz.ntmps98;go_wp2_with fail;go_ret;exact⟨by rw[HE.out];rfl,AL.out _ _⟩
 subst q0 q1 q2;have HE:Hid (R=decide (l=l2)):=hid (by rw[Bool.eq_iff_iff,HK.out,decide_eq_true_iff];exact⟨fun h=>h.2.1,fun h=>⟨rfl,h,rfl,rfl⟩⟩);rw[<- HE.out]at C;clear HE HK;go_enter Tryz.func98,Tryz.ntmps98;go_wp2_with fail;refine(C.out _ (AL.out _ _)).mono ?_;rintro e w1 ⟨rfl,hb1⟩;have B1:=hid (aO (AL.out _ _) hb1);clear hb1;go_wp2_with fail;go_ret;exact⟨by cases R<;>rfl,B1.out⟩
theorem sZ (k k2:iJ)(la:Option Addr)(ln lc:Nat)(la2:Option Addr)(ln2 lc2:Nat)(w:World)(h:bZ w k la ln lc)(h2:bZ w k2 la2 ln2 lc2) :
  Calls Tryz.prog 127 #[.agg #[.int .i64 k.c,.slice la ln lc,.int .i64 k.r,.int .i64 k.b],.agg #[.int .i64 k2.c,.slice la2 ln2 lc2,.int .i64 k2.r,.int .i64 k2.b]] w fun e w'=>e = .returned (.bool (decide (k=k2)))/\Below w.heap.size w w':=by
 have HR:=hid h.rl;have HL:=hid h.ll;have hsm:=h.sl;have HR2:=hid h2.rl;have HL2:=hid h2.ll;clear h h2;obtain⟨c,l,r,b⟩:=k;obtain⟨c2,l2,r2,b2⟩:=k2;have AL:Hid (∀o1 o2:Obj,Below w.heap.size w ((w.alloc o1).alloc o2)):=hid fun o1 o2=>((Below.refl _ _).alloc (Nat.le_refl _) _).alloc (by simp) _;have HK:Hid (decide ((⟨c,l,r,b⟩:iJ)=⟨c2,l2,r2,b2⟩)=true ↔ (c=c2/\l=l2/\r=r2/\b=b2)):=hid (by rw[decide_eq_true_iff];exact⟨fun h=>by cases h;exact⟨rfl,rfl,rfl,rfl⟩,fun ⟨h1,h2,h3,h4⟩=>by rw[h1,h2,h3,h4]⟩);obtain⟨R,hR⟩:∃R:Bool,R=decide ((⟨c,l,r,b⟩:iJ)=⟨c2,l2,r2,b2⟩):=⟨_,rfl⟩;rw[<- hR];rw[<- hR]at HK;clear hR;simp only at HR HL HR2 HL2;by_cases q0:c=c2
 case neg =>
  have HE:Hid (R=false):=hid (by rw[Bool.eq_false_iff];intro h;exact q0 ((HK.out.1 h).1));go_enter Tryz.func127,Tryz.ntmps127;go_wp2_with fail;go_ret;exact⟨by rw[HE.out];rfl,AL.out _ _⟩
 by_cases q1:r=r2
 case neg =>
  have HE:Hid (R=false):=hid (by rw[Bool.eq_false_iff];intro h;exact q1 ((HK.out.1 h).2.2.1));go_enter Tryz.func127,Tryz.ntmps127;go_wp2_with fail;go_ret;exact⟨by rw[HE.out];rfl,AL.out _ _⟩
 by_cases q2:b=b2
 case neg =>
  have HE:Hid (R=false):=hid (by rw[Bool.eq_false_iff];intro h;exact q2 ((HK.out.1 h).2.2.2));go_enter Tryz.func127,Tryz.ntmps127;go_wp2_with fail;go_ret;exact⟨by rw[HE.out];rfl,AL.out _ _⟩
 by_cases q3:ln=ln2
 case neg =>
  have HE:Hid (R=false):=hid (by rw[Bool.eq_false_iff];intro h;exact q3 (by rw[<- HL.out,<- HL2.out,(HK.out.1 h).2.1]));go_enter Tryz.func127,Tryz.ntmps127;go_wp2_with fail;go_ret;exact⟨by rw[HE.out];rfl,AL.out _ _⟩
 subst q0 q1 q2 q3;have HE:Hid (R=decide (l=l2)):=hid (by rw[Bool.eq_iff_iff,HK.out,decide_eq_true_iff];exact⟨fun h=>h.2.1,fun h=>⟨rfl,h,rfl,rfl⟩⟩);clear HK;go_enter Tryz.func127,Tryz.ntmps127;go_wp2_with fail
 go_loopw [5] (fun i wr=>∃(j:Nat),i = .int .i64 j/\j<=ln/\l.take j=l2.take j/\wr.cell? ⟨w.heap.size,1,none⟩=some (.slice la ln lc)/\wr.cell? ⟨w.heap.size+1,1,none⟩=some (.slice la2 ln lc2)/\Below w.heap.size w wr/\w.heap.size+1<wr.heap.size) (fun i _=>ln-(intOf i).toNat)
 case atStart=>exact⟨0,rfl,Nat.zero_le _,rfl,by go_cell,by go_cell,AL.out _ _,by simp⟩
 case round =>
  obtain⟨j,rfl,hj,hrow,k1,k2,hb,hsz⟩:=hrel;have HB:=hid hb;have HW:=hid hrow;have K1:=hid k1;have K2:=hid k2;have HS:=hid hsz;have DR:Hid (Below w.heap.size w wr -> ∀m,Below w.heap.size w (wr.drewN m)):=hid fun h m=>h.trans ((Below.drewN _ _).mono h.size);clear hb hrow hsz;by_cases hlt:j<ln
  ·have hjl:j<l.length:=by have:=HL.out;omega
   have hjm:j<l2.length:=by have:=HL2.out;omega
   obtain⟨bb,oo,rfl,hbl,x0,x1⟩:=HR.out.sp hjl;obtain⟨bb2,oo2,rfl,hbl2,y0,y1⟩:=HR2.out.sp hjm;have x0:=aI HB.out x0 hbl;have x1:=aI HB.out x1 hbl;have y0:=aI HB.out y0 hbl2;have y1:=aI HB.out y1 hbl2;by_cases he:l[j]=l2[j]
   ·have HT:Hid (l.take (j+1)=l2.take (j+1)):=hid (eW HW.out hjl hjm he);rw[<- he]at y0 y1;generalize l[j]=s at x0 x1 y0 y1;obtain⟨f,t⟩:=s;simp only at x0 x1 y0 y1;go_wp2_with fail
    go_quiet (fail)
    go_wp2_with fail
    go_roundw
    case rel=>exact⟨j+1,by first|rfl|go_num,by omega,HT.out,K1.out,K2.out,DR.out HB.out _,HS.out⟩
    all_goals (show ln-((j:Int)+1).toNat<ln-((j:Int)).toNat;omega)
   ·have HF:Hid (R=false):=hid (by rw[HE.out];exact decide_eq_false fun h=>he (by subst h;rfl));generalize l[j]=s at x0 x1 he;generalize l2[j]=s2 at y0 y1 he;obtain⟨f,t⟩:=s;obtain⟨f2,t2⟩:=s2;simp only at x0 x1 y0 y1;by_cases h1:f=f2
    ·have h2:¬t=t2:=fun e=>he (by rw[h1,e]);have bx:(f==f2)=true:=by simp[h1]
     have by':(t==t2)=false:=by simp[h2]
     clear he h1 h2;go_wp2_with fail
     go_quiet (fail)
     go_wp2_with fail;go_ret;exact⟨by rw[HF.out];rfl,DR.out HB.out _⟩
    ·have bx:(f==f2)=false:=by simp[h1]
     clear he h1;go_wp2_with fail
     go_quiet (fail)
     go_wp2_with fail;go_ret;exact⟨by rw[HF.out];rfl,DR.out HB.out _⟩
  ·obtain rfl:j=ln:=by omega
   have HT:Hid (R=true):=hid (by
    rw[HE.out];have:=HW.out;rw[List.take_of_length_le (by rw[HL.out];exact Nat.le_refl _),List.take_of_length_le (by rw[HL2.out];exact Nat.le_refl _)]at this;exact decide_eq_true this)
   go_wp2_with fail;go_ret;exact⟨by rw[HT.out];rfl,HB.out⟩
