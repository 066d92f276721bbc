/- Several texts in one: Opn, Opo for vltkeeps_law_holds. No conditions but those stated. -/
import Derived.Test.YtjdglpcnkiioeaaGreatVkb4
import Derived.Test.YtjdglpcnkiioeaaGreatVkb11
import Derived.Test.YtjdglpcnkiioeaaGreatVkb7
namespace Go.Proofs.YtjdglpcnkiioeaaGreat
open Go.ChangeShapes Go.WideShapes Go.ChangeAt Go.RowKit Go.Deep Go.Proofs.Own

theorem own:ownKnob Tryz.prog.godebug = none:=by kernel_rfl
theorem laid:laidOutB Tryz.prog = true:=by kernel_rfl
theorem aIY:Tryz.prog.cellsOf 5 = 1:=by kernel_rfl
theorem sV:Tryz.prog.cellsOf 3 = 1:=by kernel_rfl

section
variable {H:Type} {enc:TypeId × Value -> H} {W:World}
def BytesArg (W:World) (v:Value):Prop:=∃ (a:Option Addr) (n c:Nat),v = .slice a n c /\ (n <= 2097152 -> ∃ l,l.length = n /\ Bytes W v l)
theorem wN {fuel:Nat} {v:Value} {x:DataW H × List MemPlace} (hf:DataW.trod enc Tryz.prog W 0 (fun _=>true) true fuel 36 [v] = some x):BytesArg W v:=by
 rcases open_slice1 Tryz.underlying36 aIY hf with ⟨hcs,_⟩ | ⟨a,len,cap,m,k,V,D,Pl,hcs,_,hl,hm,hmm,_,hi⟩
 ·obtain rfl:v = .slice none 0 0:=by simpa using hcs
  exact ⟨_,_,_,rfl,fun _=>⟨[],rfl,Bytes.nil W⟩⟩
 ·obtain rfl:v = .slice (some a) len cap:=by simpa using hcs
  have hm':m = cap:=by simpa using hmm
  subst hm'
  refine ⟨_,_,_,rfl,fun hn=>?_⟩
  have cell:∀ i,i < len -> ∃ x:Nat,W.cell? (a.add i) = some (.int .u8 x) /\ x < 256:=by
   intro i hi'
   obtain ⟨hc,ht⟩:=hi i (by omega)
   obtain ⟨z,ez,_,wz⟩:=DataW.trod_int Tryz.underlying5 ht
   obtain hz:V i = .int .u8 z:=by simpa using ez
   have hr:0 <= z /\ z < 256:=by
    simp only [Lit.wf,Bool.and_eq_true,decide_eq_true_eq] at wz
    have h0:IntKind.min .u8 = 0:=by decide
    have h1:IntKind.max .u8 = 255:=by decide
    rw [h0,h1] at wz
    omega
   exact ⟨z.toNat,by rw [hc,hz,Int.toNat_of_nonneg hr.1],by omega⟩
  by_cases hz0:len = 0
  ·subst hz0
   exact ⟨[],rfl,⟨⟨_,_,rfl,hl⟩,Reads.nil _ _ _ _,by simp,by simp⟩⟩
  obtain ⟨X,hX⟩:∃ X:Nat -> Nat,∀ i,i < len -> W.cell? (a.add i) = some (.int .u8 (X i)) /\ X i < 256 :=
   ⟨fun i=>if h:i < len then Classical.choose (cell i h) else 0,fun i h=>by simp only [dif_pos h];exact Classical.choose_spec (cell i h)⟩
  have ha:a = ⟨a.block,a.off,none⟩:=vJ (hX 0 (by omega)).1
  have hlen:((List.range len).map X).length = len:=by simp
  refine ⟨(List.range len).map X,hlen,⟨some a,m,by rw [hlen],by rw [hlen];exact hl⟩,⟨some a,m,by rw [aX,hlen],fun j hj=>⟨a.block,a.off,congrArg some ha,?_⟩⟩,?_,by rw [hlen];omega⟩
  ·have hj':j < len:=by rw [aX,hlen] at hj;exact hj
   rw [<- xW a a.block a.off j ha,(hX j hj').1,ints_at]
   simp
  ·intro x hx
   simp only [List.mem_map,List.mem_range] at hx
   obtain ⟨i,hi',rfl⟩:=hx
   exact (hX i hi').2
def aIR (W:World) (v:Value):Prop:=∃ (a:Option Addr) (n c:Nat),v = .slice a n c /\ (n <= 2097152 -> ∃ l,l.length = n /\ Ints W v l)
theorem aEg {fuel:Nat} {v:Value} {x:DataW H × List MemPlace} (hf:DataW.trod enc Tryz.prog W 0 (fun _=>true) true fuel 73 [v] = some x):aIR W v:=by
 rcases open_slice1 Tryz.underlying73 sV hf with ⟨hcs,_⟩ | ⟨a,len,cap,m,k,V,D,Pl,hcs,_,hl,hm,hmm,_,hi⟩
 ·obtain rfl:v = .slice none 0 0:=by simpa using hcs
  exact ⟨_,_,_,rfl,fun _=>⟨[],rfl,Ints.nil W⟩⟩
 ·obtain rfl:v = .slice (some a) len cap:=by simpa using hcs
  have hm':m = cap:=by simpa using hmm
  subst hm'
  refine ⟨_,_,_,rfl,fun hn=>?_⟩
  have cell:∀ i,i < len -> ∃ x:Int,W.cell? (a.add i) = some (.int .i64 x):=by
   intro i hi'
   obtain ⟨hc,ht⟩:=hi i (by omega)
   obtain ⟨z,ez,_,wz⟩:=DataW.trod_int Tryz.underlying3 ht
   obtain hz:V i = .int .i64 z:=by simpa using ez
   exact ⟨z,by rw [hc,hz]⟩
  by_cases hz0:len = 0
  ·subst hz0
   exact ⟨[],rfl,⟨⟨_,_,rfl,hl⟩,Reads.nil _ _ _ _,by simp⟩⟩
  obtain ⟨X,hX⟩:∃ X:Nat -> Int,∀ i,i < len -> W.cell? (a.add i) = some (.int .i64 (X i)) :=
   ⟨fun i=>if h:i < len then Classical.choose (cell i h) else 0,fun i h=>by simp only [dif_pos h];exact Classical.choose_spec (cell i h)⟩
  have ha:a = ⟨a.block,a.off,none⟩:=vJ (hX 0 (by omega))
  have hlen:((List.range len).map X).length = len:=by simp
  refine ⟨(List.range len).map X,hlen,⟨some a,m,by rw [hlen],by rw [hlen];exact hl⟩,⟨some a,m,by rw [hlen],fun j hj=>⟨a.block,a.off,congrArg some ha,?_⟩⟩,by rw [hlen];omega⟩
  have hj':j < len:=by rw [hlen] at hj;exact hj
  rw [<- xW a a.block a.off j ha,hX j hj']
  simp
end

section
variable {H:Type} {enc:TypeId × Value -> H} {W:World}
theorem uZ {α:Type} {val:α -> List Value} {Ok:α -> Prop} {t e:TypeId} {sz fuel:Nat} {v:Value} {x:DataW H × List MemPlace} (ht:Tryz.prog.underlying t = some (.slice e)) (hC:Tryz.prog.cellsOf e = sz) (hz:0 < sz)
  (hel:∀ n cs y,DataW.trod enc Tryz.prog W 0 (fun _=>true) true n e cs = some y -> ∃ r:α,cs = val r /\ Ok r)
  (hf:DataW.trod enc Tryz.prog W 0 (fun _=>true) true fuel t [v] = some x):∃ rs:List α,cS W sz v (rs.map val) /\ (∀ r ∈ rs,Ok r) /\ rs.length <= maxLen:=by
 rcases open_slice ht hf with ⟨hcs,_⟩ | ⟨a,len,cap,m,n,D,Pl,hcs,_,hl,hcm,hm,_,hi⟩
 ·obtain rfl:v = .slice none 0 0:=by simpa using hcs
  exact ⟨[],cS.nil W sz,nofun,Nat.zero_le _⟩
 ·obtain rfl:v = .slice (some a) len cap:=by simpa using hcs
  have hmc:m = cap:=by simpa using hm
  subst hmc
  rw [hC] at hi
  have build:∀ k,k <= len -> ∃ rs:List α,rs.length = k /\ (∀ j (h:j < rs.length) i x,(val rs[j])[i]? = some x -> W.cell? (a.add (j * sz + i)) = some x) /\ ∀ r ∈ rs,(val r).length = sz /\ Ok r:=by
   intro k
   induction k with
   | zero=>exact fun _=>⟨[],rfl,fun j h=>absurd h (Nat.not_lt_zero j),nofun⟩
   | succ k ih =>
    intro hk
    obtain ⟨rs,h1,h2,h3⟩:=ih (by omega)
    obtain ⟨cs',hc,htr⟩:=hi k (by omega)
    obtain ⟨r,rfl,hok⟩:=hel _ _ _ htr
    obtain ⟨_,hcl,hat⟩:=World.cells?_some hc
    refine ⟨rs ++ [r],by simp [h1],fun j hj i x hx=>?_,fun q hq=>?_⟩
    ·by_cases hjk:j < rs.length
     ·rw [List.getElem_append_left hjk] at hx
      exact h2 j hjk i x hx
     ·obtain rfl:j = rs.length:=by rw [List.length_append,List.length_singleton] at hj;omega
      have hx':(val r)[i]? = some x:=by simpa using hx
      have hi':i < sz:=by have:=(List.getElem?_eq_some_iff.1 hx').1;omega
      rw [h1,<- Go.Deep.add_add,hat i hi',hx']
    ·rcases List.mem_append.1 hq with hq | hq
     ·exact h3 q hq
     ·obtain rfl:=List.mem_singleton.1 hq
      exact ⟨hcl,hok⟩
  obtain ⟨rs,h1,h2,h3⟩:=build len (Nat.le_refl _)
  refine ⟨rs,⟨some a,m,by rw [List.length_map,h1],by rw [List.length_map,h1];exact hl,fun j hj=>?_⟩,fun r hr=>(h3 r hr).2,by omega⟩
  rw [List.length_map] at hj
  have hlen:=(h3 rs[j] (List.getElem_mem hj)).1
  have h0:(0:Nat) < rs.length:=by omega
  have hl0:=(h3 rs[0] (List.getElem_mem h0)).1
  have hc0:=h2 0 h0 0 ((val rs[0])[0]'(by omega)) (List.getElem?_eq_getElem _)
  rw [Nat.zero_mul,Nat.zero_add] at hc0
  have ha:=vJ hc0
  refine ⟨a.block,a.off,congrArg some ha,World.block_lt_of_cell? W (a.add 0) hc0,fun i x hx=>?_⟩
  rw [Nat.add_assoc,<- xW a a.block a.off _ ha]
  exact h2 j hj i x (by simpa using hx)

theorem aGX {z:Int} (h:Lit.wf (.int .u16 z) = true):0 <= z /\ z < 65536:=by
 simp only [Lit.wf,Bool.and_eq_true,decide_eq_true_eq] at h
 have h0:IntKind.min .u16 = 0:=by decide
 have h1:IntKind.max .u16 = 65535:=by decide
 rw [h0,h1] at h
 omega
theorem aGY {z:Int} (h:Lit.wf (.int .u32 z) = true):0 <= z /\ z < 4294967296:=by
 simp only [Lit.wf,Bool.and_eq_true,decide_eq_true_eq] at h
 have h0:IntKind.min .u32 = 0:=by decide
 have h1:IntKind.max .u32 = 4294967295:=by decide
 rw [h0,h1] at h
 omega
theorem lK {z:Int} (h:Lit.wf (.int .u64 z) = true):0 <= z /\ z < 18446744073709551616:=by
 simp only [Lit.wf,Bool.and_eq_true,decide_eq_true_eq] at h
 have h0:IntKind.min .u64 = 0:=by decide
 have h1:IntKind.max .u64 = 18446744073709551615:=by decide
 rw [h0,h1] at h
 omega
theorem uN {z:Int} (h:Lit.wf (.int .i64 z) = true):-9223372036854775808 <= z /\ z <= 9223372036854775807:=by
 simp only [Lit.wf,Bool.and_eq_true,decide_eq_true_eq] at h
 have h0:IntKind.min .i64 = -9223372036854775808:=by decide
 have h1:IntKind.max .i64 = 9223372036854775807:=by decide
 rw [h0,h1] at h
 exact h
theorem aAv:Tryz.prog.cellsOf 131 = 2:=by kernel_rfl
theorem aHm:Tryz.prog.cellsOf 128 = 1:=by kernel_rfl
theorem aHn:Tryz.prog.cellsOf 129 = 1:=by kernel_rfl
theorem sY:Tryz.prog.cellsOf 22 = 1:=by kernel_rfl
set_option maxRecDepth 100000 in
theorem aGw {n:Nat} {cs:List Value} {y:DataW H × List MemPlace} (h:DataW.trod enc Tryz.prog W 0 (fun _=>true) true n 131 cs = some y):∃ r:Nat × Nat,cs = tX r /\ (r.1 < 65536 /\ r.2 < 4294967296):=by
 obtain ⟨xs,k,_,_,hl,hxl,hg⟩:=DataW.trod_struct Tryz.underlying131 h
 rw [aAv] at hl
 match cs,hl with
 | [c0,c1],_ =>
  match xs,hxl with
  | [y0,y1],_ =>
   have g0:=hg 0 _ rfl
   have g1:=hg 1 _ rfl
   simp only [List.getElem_toArray,List.getElem_cons_zero,List.getElem_cons_succ] at g0 g1
   rw [aHm] at g0
   rw [aHn] at g1
   simp only [List.drop_zero,List.drop_succ_cons,List.take_succ_cons,List.take_zero,List.getElem?_cons_zero,List.getElem?_cons_succ] at g0 g1
   obtain ⟨z0,e0,_,w0⟩:=DataW.trod_int Tryz.underlying128 g0
   obtain rfl:c0 = .int .u16 z0:=by simpa using e0
   obtain ⟨z1,e1,_,w1⟩:=DataW.trod_int Tryz.underlying129 g1
   obtain rfl:c1 = .int .u32 z1:=by simpa using e1
   have r0:=aGX w0
   have r1:=aGY w1
   refine ⟨(z0.toNat,z1.toNat),?_,by omega,by omega⟩
   unfold tX
   simp only
   rw [Int.toNat_of_nonneg r0.1,Int.toNat_of_nonneg r1.1]
set_option maxRecDepth 100000 in
theorem yU {fuel:Nat} {v:Value} {x:DataW H × List MemPlace} (hf:DataW.trod enc Tryz.prog W 0 (fun _=>true) true fuel 24 [v] = some x):∃ ts,dV W v ts:=by
 obtain ⟨rs,h1,h2,_⟩:=uZ (val:=tX) (Ok:=fun r=>r.1 < 65536 /\ r.2 < 4294967296) Tryz.underlying24 aAv (by decide) (fun n cs y h=>aGw h) hf
 exact ⟨rs,h1,h2⟩
set_option maxRecDepth 100000 in
theorem aJn {base:Nat} {v:Value} {d:DataW H} {ps:List MemPlace} (hv:Value.okWide Tryz.prog W .any base 5 v) (h:DataW.Trod enc Tryz.prog W 0 (fun _=>true) true 5 v d ps):∃ k:Nat,v = .int .u8 k /\ k < 256:=by
 obtain ⟨z,rfl⟩:=okWide_int Tryz.underlying5 hv
 obtain ⟨fuel,hf⟩:=h
 obtain ⟨z',e,_,w⟩:=DataW.trod_int Tryz.underlying5 hf
 obtain rfl:z = z':=by simpa [Value.cells] using e
 simp only [Lit.wf,Bool.and_eq_true,decide_eq_true_eq] at w
 have h0:IntKind.min .u8 = 0:=by decide
 have h1:IntKind.max .u8 = 255:=by decide
 rw [h0,h1] at w
 exact ⟨z.toNat,by rw [Int.toNat_of_nonneg w.1],by omega⟩
end
end Go.Proofs.YtjdglpcnkiioeaaGreat
