/- For vltopens_law_holds. -/
import Derived.Lib.SlBytesConst
import Derived.Test.YtjdglpcnkiioeaaGreatVob27
set_option maxHeartbeats 16000000
set_option maxRecDepth 100000
namespace Go.Proofs.YtjdglpcnkiioeaaGreat
open Go.RowKit Go.Maps Go.Proofs.Own

def jB (i:Int):bM:=⟨i,1,[0],[97]⟩
def aEy (w:World)(B:Nat)(v:Value)(s:bM):Prop :=
 ∃mv dv,v = .agg #[.int .u64 s.i,.int .u64 s.t,mv,dv]/\Ints w mv s.ms/\Bytes w dv s.d/\(∀b,mv.ownBlock=some b->B<=b)/\(∀b,dv.ownBlock=some b->B<=b)
theorem aFT (i:Int)(w:World):Calls Tryz.prog 82 #[.int .u64 i] w fun e w'=>∃v,e = .returned v/\aEy w' w.heap.size v (jB i)/\Below w.heap.size w w':=by
 have kc:=fun (w:World) (C:Array Value) (n c:Nat)=>Lib.run_convert_bytes_const (P:=Tryz.prog) w 36 5 C n c Tryz.underlying36 Tryz.underlying5;have kc2:=kc ((w.alloc (.cells #[.int .u64 0,.int .u64 0,.slice none 0 0,.slice none 0 0] 75)).alloc (.cells #[.int .i64 0] 3)) #[.int .u8 97] 1 1;simp at kc2;clear kc;go_enter Tryz.func82,Tryz.ntmps82;go_wp2_with fail;clear kc2;have hb:Below w.heap.size w (((w.alloc (.cells #[.int .u64 i,.int .u64 1,.slice (some ⟨w.heap.size+1,0,none⟩) 1 1,.slice (some ⟨w.heap.size+1+1,0,none⟩) 1 1] 75)).alloc (.cells #[.int .i64 0] 3)).alloc (.cells #[.int .u8 97] 5 (1,2))) :=
  (((Below.refl _ _).alloc (Nat.le_refl _) _).alloc (by simp) _).alloc (by simp;omega) _
 have hI:Ints (((w.alloc (.cells #[.int .u64 i,.int .u64 1,.slice (some ⟨w.heap.size+1,0,none⟩) 1 1,.slice (some ⟨w.heap.size+1+1,0,none⟩) 1 1] 75)).alloc (.cells #[.int .i64 0] 3)).alloc (.cells #[.int .u8 97] 5 (1,2))) (.slice (some ⟨w.heap.size+1,0,none⟩) 1 1) [0]:=by
  have h:=(Reads.one (w.alloc (.cells #[.int .u64 i,.int .u64 1,.slice (some ⟨w.heap.size+1,0,none⟩) 1 1,.slice (some ⟨w.heap.size+1+1,0,none⟩) 1 1] 75)) .i64 0 3).alloc (.cells #[.int .u8 97] 5 (1,2));exact⟨⟨_,_,rfl,Nat.le_refl _⟩,by simpa using h,by simp⟩
 have hB:Bytes (((w.alloc (.cells #[.int .u64 i,.int .u64 1,.slice (some ⟨w.heap.size+1,0,none⟩) 1 1,.slice (some ⟨w.heap.size+1+1,0,none⟩) 1 1] 75)).alloc (.cells #[.int .i64 0] 3)).alloc (.cells #[.int .u8 97] 5 (1,2))) (.slice (some ⟨w.heap.size+1+1,0,none⟩) 1 1) [97]:=by
  have h:=heap_alloc_new ((w.alloc (.cells #[.int .u64 i,.int .u64 1,.slice (some ⟨w.heap.size+1,0,none⟩) 1 1,.slice (some ⟨w.heap.size+1+1,0,none⟩) 1 1] 75)).alloc (.cells #[.int .i64 0] 3)) (.cells #[.int .u8 97] 5 (1,2));have h2:((w.alloc (.cells #[.int .u64 i,.int .u64 1,.slice (some ⟨w.heap.size+1,0,none⟩) 1 1,.slice (some ⟨w.heap.size+1+1,0,none⟩) 1 1] 75)).alloc (.cells #[.int .i64 0] 3)).heap.size=w.heap.size+1+1:=by simp
  rw[h2]at h;exact Bytes.aCw (l:=[97]) (c:=1) h (fun j hj=>by simp at hj;subst hj;rfl) (by simp) (by simp) (by simp)
 have hS:=((bR.box w i 1 (.slice (some ⟨w.heap.size+1,0,none⟩) 1 1) (.slice (some ⟨w.heap.size+1+1,0,none⟩) 1 1)).below ((Below.refl _ _).alloc (Nat.le_refl _) (.cells #[.int .i64 0] 3))).below ((Below.refl _ _).alloc (Nat.le_refl _) (.cells #[.int .u8 97] 5 (1,2)));generalize World.alloc _ _=wF at *
 obtain⟨q0,q1,q2,q3,_,_,_,_⟩:=hS;refine bodyPost_ret (v:=.agg #[.int .u64 i,.int .u64 1,.slice (some ⟨w.heap.size+1,0,none⟩) 1 1,.slice (some ⟨w.heap.size+1+1,0,none⟩) 1 1]) (by simp[results,Tryz.results82,go_sem,q0,q1,q2,q3]) rfl ?_;refine⟨_,rfl,⟨_,_,rfl,hI,hB,fun b e=>?_,fun b e=>?_⟩,hb⟩
 ·simp only[Value.ownBlock]at e;obtain rfl:=Option.some.inj e;omega
 ·simp only[Value.ownBlock]at e;obtain rfl:=Option.some.inj e;omega
