/- For vltopens_law_holds. -/
import Derived.Test.YtjdglpcnkiioeaaGreatVob4
import Derived.Test.YtjdglpcnkiioeaaGreatVob16
namespace Go.Proofs.YtjdglpcnkiioeaaGreat
open Go.ChangeShapes Go.WideShapes Go.ChangeAt Go.RowKit Go.Deep Go.Proofs.Own

theorem own:ownKnob Tryz.prog.godebug=none:=by kernel_rfl
theorem laid:laidOutB Tryz.prog=true:=by kernel_rfl
theorem aIs:Tryz.prog.cellsOf 5=1:=by kernel_rfl
section
variable {H:Type} {enc:TypeId × Value->H} {W:World}
def BytesArg (W:World)(v:Value):Prop:=∃(a:Option Addr) (n c:Nat),v = .slice a n c/\(n<=2097152 -> ∃l,l.length=n/\Bytes W v l)
theorem aCA {fuel:Nat}{v:Value}{x:DataW H × List MemPlace}(hf:DataW.trod enc Tryz.prog W 0 (fun _=>true) true fuel 36 [v]=some x):BytesArg W v:=by
 rcases open_slice1 Tryz.underlying36 aIs hf with ⟨hcs,_⟩|⟨a,len,cap,m,k,V,D,Pl,hcs,_,hl,hm,hmm,_,hi⟩
 ·obtain rfl:v = .slice none 0 0:=by simpa using hcs
  exact⟨_,_,_,rfl,fun _=>⟨[],rfl,Bytes.nil W⟩⟩
 ·obtain rfl:v = .slice (some a) len cap:=by simpa using hcs
  have hm':m=cap:=by simpa using hmm
  subst hm';refine⟨_,_,_,rfl,fun hn=>?_⟩;have cell:∀i,i<len -> ∃x:Nat,W.cell? (a.add i)=some (.int .u8 x)/\x<256:=by
   intro i hi';obtain⟨hc,ht⟩:=hi i (by omega);obtain⟨z,ez,_,wz⟩:=DataW.trod_int Tryz.underlying5 ht;obtain hz:V i = .int .u8 z:=by simpa using ez
   have hr:0<=z/\z<256:=by
    simp only[Lit.wf,Bool.and_eq_true,decide_eq_true_eq]at wz;have h0:IntKind.min .u8=0:=by decide
    have h1:IntKind.max .u8=255:=by decide
    rw[h0,h1]at wz;omega
   exact⟨z.toNat,by rw[hc,hz,Int.toNat_of_nonneg hr.1],by omega⟩
  by_cases hz0:len=0
  ·subst hz0;exact⟨[],rfl,⟨⟨_,_,rfl,hl⟩,Reads.nil _ _ _ _,by simp,by simp⟩⟩
  obtain⟨X,hX⟩:∃X:Nat->Nat,∀i,i<len->W.cell? (a.add i)=some (.int .u8 (X i))/\X i<256 :=
   ⟨fun i=>if h:i<len then Classical.choose (cell i h) else 0,fun i h=>by simp only[dif_pos h];exact Classical.choose_spec (cell i h)⟩
  have ha:a=⟨a.block,a.off,none⟩:=aAP (hX 0 (by omega)).1;have hlen:((List.range len).map X).length=len:=by simp
  refine⟨(List.range len).map X,hlen,⟨some a,m,by rw[hlen],by rw[hlen];exact hl⟩,⟨some a,m,by rw[aS,hlen],fun j hj=>⟨a.block,a.off,congrArg some ha,?_⟩⟩,?_,by rw[hlen];omega⟩
  ·have hj':j<len:=by rw[aS,hlen]at hj;exact hj
   rw[<- aBO a a.block a.off j ha,(hX j hj').1,ints_at];simp
  ·intro x hx;simp only[List.mem_map,List.mem_range]at hx;obtain⟨i,hi',rfl⟩:=hx;exact(hX i hi').2
end

section
variable {H:Type} {enc:TypeId × Value->H} {W:World}
theorem aFS {α:Type}{val:α->List Value}{Ok:α->Prop}{t e:TypeId}{sz fuel:Nat}{v:Value}{x:DataW H × List MemPlace}(ht:Tryz.prog.underlying t=some (.slice e))(hC:Tryz.prog.cellsOf e=sz)(hz:0<sz)
  (hel:∀n cs y,DataW.trod enc Tryz.prog W 0 (fun _=>true) true n e cs=some y -> ∃r:α,cs=val r/\Ok r)
  (hf:DataW.trod enc Tryz.prog W 0 (fun _=>true) true fuel t [v]=some x):∃rs:List α,bJ W sz v (rs.map val)/\(∀r ∈ rs,Ok r)/\rs.length<=maxLen:=by
 rcases open_slice ht hf with ⟨hcs,_⟩|⟨a,len,cap,m,n,D,Pl,hcs,_,hl,hcm,hm,_,hi⟩
 ·obtain rfl:v = .slice none 0 0:=by simpa using hcs
  exact⟨[],bJ.nil W sz,nofun,Nat.zero_le _⟩
 ·obtain rfl:v = .slice (some a) len cap:=by simpa using hcs
  have hmc:m=cap:=by simpa using hm
  subst hmc;rw[hC]at hi;have build:∀k,k<=len -> ∃rs:List α,rs.length=k/\(∀j (h:j<rs.length) i x,(val rs[j])[i]? = some x->W.cell? (a.add (j*sz+i))=some x) /\ ∀r ∈ rs,(val r).length=sz/\Ok r:=by
   intro k
   induction k with
   | zero=>exact fun _=>⟨[],rfl,fun j h=>absurd h (Nat.not_lt_zero j),nofun⟩
   | succ k ih =>
    intro hk;obtain⟨rs,h1,h2,h3⟩:=ih (by omega);obtain⟨cs',hc,htr⟩:=hi k (by omega);obtain⟨r,rfl,hok⟩:=hel _ _ _ htr;obtain⟨_,hcl,hat⟩:=World.cells?_some hc;refine⟨rs ++ [r],by simp[h1],fun j hj i x hx=>?_,fun q hq=>?_⟩
    ·by_cases hjk:j<rs.length
     ·rw[List.getElem_append_left hjk]at hx;exact h2 j hjk i x hx
     ·obtain rfl:j=rs.length:=by rw[List.length_append,List.length_singleton]at hj;omega
      have hx':(val r)[i]? = some x:=by simpa using hx
      have hi':i<sz:=by have:=(List.getElem?_eq_some_iff.1 hx').1;omega
      rw[h1,<- Go.Deep.add_add,hat i hi',hx']
    ·rcases List.mem_append.1 hq with hq|hq
     ·exact h3 q hq
     ·obtain rfl:=List.mem_singleton.1 hq;exact⟨hcl,hok⟩
  obtain⟨rs,h1,h2,h3⟩:=build len (Nat.le_refl _);refine⟨rs,⟨some a,m,by rw[List.length_map,h1],by rw[List.length_map,h1];exact hl,fun j hj=>?_⟩,fun r hr=>(h3 r hr).2,by omega⟩;rw[List.length_map]at hj;have hlen:=(h3 rs[j] (List.getElem_mem hj)).1;have h0:(0:Nat)<rs.length:=by omega
  have hl0:=(h3 rs[0] (List.getElem_mem h0)).1;have hc0:=h2 0 h0 0 ((val rs[0])[0]'(by omega)) (List.getElem?_eq_getElem _);rw[Nat.zero_mul,Nat.zero_add]at hc0;have ha:=aAP hc0;refine⟨a.block,a.off,congrArg some ha,World.block_lt_of_cell? W (a.add 0) hc0,fun i x hx=>?_⟩;rw[Nat.add_assoc,<- aBO a a.block a.off _ ha];exact h2 j hj i x (by simpa using hx)

theorem aGp {z:Int}(h:Lit.wf (.int .u64 z)=true):0<=z/\z<18446744073709551616:=by
 simp only[Lit.wf,Bool.and_eq_true,decide_eq_true_eq]at h;have h0:IntKind.min .u64=0:=by decide
 have h1:IntKind.max .u64=18446744073709551615:=by decide
 rw[h0,h1]at h;omega
theorem aFI {z:Int}(h:Lit.wf (.int .i64 z)=true):-9223372036854775808<=z/\z<=9223372036854775807:=by
 simp only[Lit.wf,Bool.and_eq_true,decide_eq_true_eq]at h;have h0:IntKind.min .i64 = -9223372036854775808:=by decide
 have h1:IntKind.max .i64=9223372036854775807:=by decide
 rw[h0,h1]at h;exact h
end
