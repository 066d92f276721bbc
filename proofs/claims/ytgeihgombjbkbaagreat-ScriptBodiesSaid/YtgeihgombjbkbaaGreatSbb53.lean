/- For scbodies_law_holds. -/
import Derived.Test.YtgeihgombjbkbaaGreatSbb8
import Derived.Test.YtgeihgombjbkbaaGreatSbb52
import Derived.Test.YtgeihgombjbkbaaGreatSbb31
set_option maxHeartbeats 16000000
set_option maxRecDepth 100000
namespace Go.Proofs.YtgeihgombjbkbaaGreat
open Go.ChangeShapes Go.WideShapes Go.ChangeAt Go.RowKit Go.Deep Go.Proofs.Own

theorem own:ownKnob Tryz.prog.godebug=none:=by kernel_rfl
theorem xD:Tryz.prog.cellsOf 5=1:=by kernel_rfl
section
variable {H:Type} {enc:TypeId × Value->H} {W:World}
def BytesArg (W:World)(v:Value):Prop:=∃(a:Option Addr) (n c:Nat),v = .slice a n c/\(n<=2097152 -> ∃l,l.length=n/\Bytes W v l)
theorem uS {fuel:Nat}{v:Value}{x:DataW H × List MemPlace}(hf:DataW.trod enc Tryz.prog W 0 (fun _=>true) true fuel 22 [v]=some x):BytesArg W v:=by
 rcases open_slice1 Tryz.underlying22 xD hf with ⟨hcs,_⟩|⟨a,len,cap,m,k,V,D,Pl,hcs,_,hl,hm,hmm,_,hi⟩
 ·obtain rfl:v = .slice none 0 0:=by simpa using hcs
  exact⟨_,_,_,rfl,fun _=>⟨[],rfl,Bytes.nil W⟩⟩
 ·obtain rfl:v = .slice (some a) len cap:=by simpa using hcs
  have hm':m=cap:=by simpa using hmm
  subst hm';refine⟨_,_,_,rfl,fun hn=>?_⟩;have cell:∀i,i<len -> ∃x:Nat,W.cell? (a.add i)=some (.int .u8 x)/\x<256:=by
   intro i hi';obtain⟨hc,ht⟩:=hi i (by omega);obtain⟨z,ez,_,wz⟩:=DataW.trod_int Tryz.underlying5 ht;obtain hz:V i = .int .u8 z:=by simpa using ez
   have hr:0<=z/\z<256:=by
    simp only[Lit.wf,Bool.and_eq_true,decide_eq_true_eq]at wz;have h0:IntKind.min .u8=0:=by decide
    have h1:IntKind.max .u8=255:=by decide
    rw[h0,h1]at wz;omega
   exact⟨z.toNat,by rw[hc,hz,Int.toNat_of_nonneg hr.1],by omega⟩
  by_cases hz0:len=0
  ·subst hz0;exact⟨[],rfl,⟨⟨_,_,rfl,hl⟩,Reads.nil _ _ _ _,by simp,by simp⟩⟩
  obtain⟨X,hX⟩:∃X:Nat->Nat,∀i,i<len->W.cell? (a.add i)=some (.int .u8 (X i))/\X i<256 :=
   ⟨fun i=>if h:i<len then Classical.choose (cell i h) else 0,fun i h=>by simp only[dif_pos h];exact Classical.choose_spec (cell i h)⟩
  have ha:a=⟨a.block,a.off,none⟩:=aAj (hX 0 (by omega)).1;have hlen:((List.range len).map X).length=len:=by simp
  refine⟨(List.range len).map X,hlen,⟨some a,m,by rw[hlen],by rw[hlen];exact hl⟩,⟨some a,m,by rw[aF,hlen],fun j hj=>⟨a.block,a.off,congrArg some ha,?_⟩⟩,?_,by rw[hlen];omega⟩
  ·have hj':j<len:=by rw[aF,hlen]at hj;exact hj
   rw[<- aAx a a.block a.off j ha,(hX j hj').1,ints_at];simp
  ·intro x hx;simp only[List.mem_map,List.mem_range]at hx;obtain⟨i,hi',rfl⟩:=hx;exact(hX i hi').2
end
theorem nC {H:Type}{enc:TypeId × Value->H}{W:World}{fuel:Nat}{a:Option Addr}{n c:Nat}{d:DataW H}{p:List MemPlace}(hf:DataW.trod enc Tryz.prog W 0 (fun _=>true) true fuel 22 [.slice a n c]=some (d,p))(hz:∀el sp,d = .slice el sp->(el.length+sp.length)*Tryz.prog.bytesOf 5<=reachBytes):n<=140737488355328/\(n<=2097152 -> ∃l,l.length=n/\Bytes W (.slice a n c) l):=by
 obtain⟨a1,n1,c1,e1,h⟩:=uS hf;cases e1;refine⟨?_,h⟩;rcases open_slice1 Tryz.underlying22 xD hf with ⟨hcs,_⟩|⟨a',len,cap,m,k,V,D,Pl,hcs,_,hl,hm,hmm,hx,hi⟩
 ·have h0:n=0:=by simp at hcs;exact hcs.2.1
  omega
 ·have h0:n=len:=by simp at hcs;exact hcs.2.1
  have h1:=hz _ _ (congrArg Prod.fst hx);have h2:Tryz.prog.bytesOf 5=1:=by kernel_rfl
  have h3:=reachBytes_lt;rw[h2]at h1;simp only[List.length_map,List.length_range]at h1;omega
theorem tD (HL:aKD)(x1 x2:Option Addr)(n1 y1 n2 y2:Nat)(w:World)(b1:n1<=140737488355328)(b2:n2<=140737488355328)(hs:¬n1+n2<=20000):Calls Tryz.prog 4 #[.slice x1 n1 y1,.slice x2 n2 y2] w fun e w'=>e = .returned (.bool true)/\Below w.heap.size w w':=by
 have F0:Fe 0 (fun v=>Below w.heap.size w v) w []:=Fe.start fun _ bv=>bv;refine enter (fun _=>0) [.sl (fun _=>x1) (fun _=>n1) (fun _=>y1),.sl (fun _=>x2) (fun _=>n2) (fun _=>y2)] [] Tryz.func4 rfl rfl F0 59 rfl ?_;refine ga env (Fe.frm 0 _) plBo ?_;refine⟨fun q=>?_,fun q=>?_⟩
 ·clear q;refine ga env (Fe.frm 0 _) plBo ?_;intro B v F;refine(HL v).mono ?_;rintro e w2 ⟨rfl,hbw⟩;refine⟨.b (.l true),_,rfl,(Fe.frm 0 _).b,F.on hbw,?_⟩;clear F hbw;refine ga env (Fe.frm 0 _) plBo ?_;refine fa env (Fe.frm 0 _) ?_;intro B v F;exact⟨rfl,F.now⟩
 ·exfalso;have q:decide (IntKind.i64.wrap ((n1:Int)+(n2:Int)) > 20000)=false:=q;rw[show (n1:Int)+(n2:Int)=((n1+n2:Nat):Int) by omega,cT (Nat.le_refl _) (by omega)]at q;simp only[decide_eq_false_iff_not]at q;omega
theorem tB (x1 x2:Option Addr)(n1 y1 n2 y2:Nat)(w:World)(b1:n1<=140737488355328)(b2:n2<=140737488355328)(h1:n1<=2097152 -> ∃l,l.length=n1/\Bytes w (.slice x1 n1 y1) l)(h2:n2<=2097152 -> ∃l,l.length=n2/\Bytes w (.slice x2 n2 y2) l):Calls Tryz.prog 4 #[.slice x1 n1 y1,.slice x2 n2 y2] w fun e w'=>e = .returned (.bool true)/\Below w.heap.size w w':=by
 by_cases hs:n1+n2<=20000
 ·obtain⟨l1,rfl,k1⟩:=h1 (by omega);obtain⟨l2,rfl,k2⟩:=h2 (by omega);exact tC mM l1 l2 x1 x2 y1 y2 w k1 k2 hs
 ·exact tD mM x1 x2 n1 y1 n2 y2 w b1 b2 hs
