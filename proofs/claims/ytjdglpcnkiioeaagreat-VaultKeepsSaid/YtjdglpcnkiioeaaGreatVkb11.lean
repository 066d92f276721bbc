/- Several texts in one: Rt, Snd, Snp, Same, Get, Read, Vs, Pread for vltkeeps_law_holds. No conditions but those stated. -/
import Derived.Test.YtjdglpcnkiioeaaGreatVkb6
import Derived.Test.YtjdglpcnkiioeaaGreatVkb2
import Derived.Test.YtjdglpcnkiioeaaGreatVkb7
import Derived.Test.YtjdglpcnkiioeaaGreatRows
set_option maxHeartbeats 16000000
namespace Go.Proofs.YtjdglpcnkiioeaaGreat
open Go.RowKit Go.Maps Go.Proofs.Own

theorem aJ4 {k:Nat} {l:List Nat} (hk:k < 256) (hn:l.length < 16777216) (h:∀ c ∈ l,c < 256):∀ c ∈ frP k l,c < 256:=zG (aAG hk hn h)
end Go.Proofs.YtjdglpcnkiioeaaGreat
namespace Go.Proofs.YtjdglpcnkiioeaaGreat
open Go.Lib (hid)
open Go.RowKit Go.Maps Go.Proofs.Own

theorem Tryz.aFc:(Tryz.prog.info? 3).map (fun i=>(i.zero,i.size,i.bytes)) = some (some (.int .i64 0),1,8):=by kernel_rfl
theorem Tryz.aK4:kG Tryz.prog 73 3 .i64 8:=⟨Tryz.underlying73,Tryz.aFc⟩

structure Ints (w:World) (v:Value) (l:List Int):Prop where
 shape:∃ a c,v = .slice a l.length c /\ l.length <= c
 rd:Reads w .i64 v l
 small:l.length <= 2097152
theorem Ints.kept {w w':World} {v:Value} {l:List Int} {S:Nat -> Prop} (h:Ints w v l) (hk:Kept w w' S) (hs:∀ b,v.ownBlock = some b -> ¬ S b):Ints w' v l:=⟨h.shape,h.rd.kept hk hs,h.small⟩
theorem Ints.below {w w':World} {v:Value} {l:List Int} (h:Ints w v l) (hb:Below w.heap.size w w'):Ints w' v l:=⟨h.shape,h.rd.below hb,h.small⟩
theorem Ints.alloc {w:World} {v:Value} {l:List Int} (h:Ints w v l) (o:Obj):Ints (w.alloc o) v l:=⟨h.shape,h.rd.alloc o,h.small⟩
theorem Ints.nil (w:World):Ints w (.slice none 0 0) []:=⟨⟨none,0,rfl,Nat.le_refl _⟩,Reads.nil _ _ _ _,Nat.zero_le _⟩
theorem Ints.eE {w:World} {base:Nat} {e:TypeId} {v:Value} {l:List Int} (h:cL w base e .i64 v l) (hs:l.length <= 2097152):Ints w v l:=by
 refine ⟨?_,h.reads,hs⟩
 rcases h.2 with ⟨rfl,h0⟩ | ⟨g,cap,cur,rfl,_,_,hle,_⟩
 ·exact ⟨none,0,by rw [h0],by omega⟩
 ·exact ⟨_,_,rfl,hle⟩
theorem Ints.cells {w:World} {a:Option Addr} {n c:Nat} {l:List Int} (h:Ints w (.slice a n c) l):n = l.length /\ n <= c /\ ∀ j (hj:j < l.length),∃ b o,a = some ⟨b,o,none⟩ /\ w.cell? ⟨b,o + j,none⟩ = some (.int .i64 l[j]):=by
 obtain ⟨a',c',h1,h2⟩:=h.shape
 cases h1
 refine ⟨rfl,h2,fun j hj=>?_⟩
 obtain ⟨a',c',h1,hc⟩:=h.rd
 cases h1
 exact hc j hj

def rG (ms:List Int) (j:Nat):Int:=if j = 0 then -1 else ms.getD (j - 1) 0
def aGt (ms:List Int) (j:Nat):Prop:=rG ms j < ms.getD j 0 /\ ms.getD j 0 < 7
instance (ms:List Int) (j:Nat):Decidable (aGt ms j):=inferInstanceAs (Decidable (_ /\ _))
def aD9 (ms:List Int):Prop:=1 <= ms.length /\ ms.length <= 7 /\ ∀ j,j < ms.length -> aGt ms j
instance (ms:List Int):Decidable (aD9 ms):=inferInstanceAs (Decidable (_ /\ _ /\ _))
def yQ (ms:List Int):Bool:=decide (aD9 ms)
theorem yY (ms:List Int) (k:Nat):rG ms (k + 1) = ms.getD k 0:=by simp [rG]
theorem uW {ms:List Int} {k:Nat} (h:∀ j,j < k -> aGt ms j):∀ j,j < k -> 0 <= ms.getD j 0
 | 0,hj=>by have:=(h 0 hj).1;simp only [rG,if_true] at this;omega
 | j + 1,hj=>by have:=uW h j (by omega);have:=(h (j + 1) hj).1;rw [yY] at this;omega
theorem aCv {l:List Int} {j:Nat} (h:j < l.length):l.getD j 0 = l[j]:=by simp [List.getD_eq_getElem?_getD,h]

theorem rZ (v:Value) (ms:List Int) (w:World) (h:Ints w v ms) :
  Calls Tryz.prog 233 #[v] w fun e w'=>e = .returned (.bool (yQ ms)) /\ w = w':=by
 obtain ⟨a,c,rfl,hle⟩:=h.shape
 have HC:=hid h.cells.2.2
 have hlb:(ms.length:Int) <= 2097152:=by have:=h.small;omega
 by_cases h0:ms.length = 0
 ·have HV:Hid (yQ ms = false):=hid (decide_eq_false fun h=>by have:=h.1;omega)
  rw [HV.out]
  rw [h0] at *
  clear h hle HC
  go_enter Tryz.func233,Tryz.ntmps233
  go_wp2_with fail
  go_step3
  go_wp2_with fail
  go_step3
  go_wp2_with fail
  go_loop [4,6,17,3] (fun l n i o=>i = .int .i64 0 /\ o = .bool false /\ l = .int .i64 (-1)) (fun _ _ _ _=>0)
  case atStart=>exact ⟨rfl,rfl,rfl⟩
  case round =>
   obtain ⟨rfl,rfl,rfl⟩:=hrel
   go_wp2_with fail
   go_ret
   exact ⟨rfl,rfl⟩
 ·by_cases h7:7 < ms.length
  ·have HV:Hid (yQ ms = false):=hid (decide_eq_false fun h=>by have:=h.2.1;omega)
   rw [HV.out]
   have l1:(7:Int) < (ms.length:Int):=by omega
   have l0:(0:Int) < (ms.length:Int):=by omega
   obtain ⟨x,b,o,rfl,hcell⟩:∃ (x:Int) (b o:Nat),a = some ⟨b,o,none⟩ /\ w.cell? ⟨b,o,none⟩ = some (.int .i64 x):=by
    obtain ⟨b,o,e,hc⟩:=HC.out 0 (by omega)
    exact ⟨_,b,o,e,hc⟩
   have hd7:decide ((ms.length:Int) <= 7) = false:=decide_eq_false (by omega)
   clear h hle h0 h7
   go_enter Tryz.func233,Tryz.ntmps233
   go_wp2_with fail
   go_step3
   go_wp2_with fail
   go_step3
   go_wp2_with fail
   go_loop [4,6,17,3] (fun l n i o=>i = .int .i64 0 /\ o = .bool false /\ l = .int .i64 (-1)) (fun _ _ _ _=>0)
   case atStart=>exact ⟨rfl,rfl,rfl⟩
   case round =>
    obtain ⟨rfl,rfl,rfl⟩:=hrel
    go_wp2_with fail
    try rw [Exit.noGoto_ret]
    go_ret
    exact ⟨rfl,rfl⟩
  ·have l1:(ms.length:Int) <= 7:=by omega
   have l0:(0:Int) < (ms.length:Int):=by omega
   have H0:Hid (1 <= ms.length /\ ms.length <= 7):=hid ⟨by omega,by omega⟩
   clear h hle h0 h7
   go_enter Tryz.func233,Tryz.ntmps233
   go_wp2_with fail
   go_step3
   go_wp2_with fail
   go_step3
   go_wp2_with fail
   go_loop [4,6,17,3] (fun l n i o=>∃ k:Nat,k <= ms.length /\ i = .int .i64 k /\ o = .bool true /\ l = .int .i64 (rG ms k) /\ ∀ j,j < k -> aGt ms j) (fun _ _ i _=>ms.length - (intOf i).toNat)
   case atStart=>exact ⟨0,Nat.zero_le _,rfl,rfl,rfl,fun j h=>absurd h (Nat.not_lt_zero j)⟩
   case round =>
    obtain ⟨k,hk,rfl,rfl,rfl,hall⟩:=hrel
    have HALL:=hid hall
    clear hall
    by_cases hlt:k < ms.length
    ·obtain ⟨b,o,rfl,hcell⟩:=HC.out k hlt
     have hki:(k:Int) < (ms.length:Int):=by omega
     have hx:=aCv hlt
     have HX:=hid hx
     have HP:Hid (rG ms (k + 1) = ms[k]):=hid (by rw [yY,hx])
     by_cases hok:aGt ms k
     ·have HO:=hid hok
      have h1:=hok.1
      have h2:=hok.2
      rw [hx] at h1 h2
      clear hok hx
      generalize ms[k] = x at hcell h1 h2 HX HP
      generalize rG ms k = p at h1
      go_wp2_with fail
      go_round
      case rel=>exact ⟨k + 1,by omega,by go_num,rfl,by rw [HP.out],fun j hj=>by
       by_cases e:j = k
       ·rw [e];exact HO.out
       ·exact HALL.out j (by omega)⟩
      case measure=>simp [intOf];omega
     ·have HV:Hid (yQ ms = false):=hid (decide_eq_false fun h=>hok (h.2.2 k hlt))
      have hno:¬ rG ms k < ms[k] \/ (rG ms k < ms[k] /\ ¬ ms[k] < 7):=by
       unfold aGt at hok;rw [hx] at hok;omega
      clear hok hx
      generalize ms[k] = x at hcell hno HX HP
      generalize rG ms k = p at hno
      rcases hno with h1 | ⟨h1,h2⟩
      all_goals
       go_wp2_with fail
       try rw [Exit.noGoto_ret]
       go_ret
       exact ⟨by rw [HV.out];rfl,rfl⟩
    ·obtain rfl:k = ms.length:=by omega
     have HV:Hid (yQ ms = true):=hid (decide_eq_true ⟨H0.out.1,H0.out.2,HALL.out⟩)
     go_wp2_with fail
     try rw [Exit.noGoto_ret]
     go_ret
     exact ⟨by rw [HV.out];rfl,rfl⟩


structure aZ where
 i:Int
 t:Int
 ms:List Int
 d:List Nat
def cG (w:World) (v:Value) (s:aZ):Prop:=∃ mv dv,v = .agg #[.int .u64 s.i,.int .u64 s.t,mv,dv] /\ Ints w mv s.ms /\ Bytes w dv s.d
theorem cG.below {w w':World} {v:Value} {s:aZ} (h:cG w v s) (hb:Below w.heap.size w w'):cG w' v s:=by
 obtain ⟨mv,dv,h1,h2,h3⟩:=h
 exact ⟨mv,dv,h1,h2.below hb,h3.below hb⟩
def aZ.ok (s:aZ):Prop:=1 <= s.i /\ s.i < 576460752303423488 /\ 1 <= s.t /\ s.t <= 1152921504606846976 /\ aD9 s.ms /\ s.d.length <= 32768
instance (s:aZ):Decidable s.ok:=inferInstanceAs (Decidable (_ /\ _))
def aZ.okB (s:aZ):Bool:=decide s.ok

set_option maxRecDepth 20000 in
theorem vI (v:Value) (s:aZ) (w:World) (h:cG w v s) :
  Calls Tryz.prog 194 #[v] w fun e w'=>e = .returned (.bool s.okB) /\ Below w.heap.size w w':=by
 obtain ⟨mv,dv,rfl,hm,hd⟩:=h
 obtain ⟨i,t,ms,d⟩:=s
 have HM:=hid hm
 have hdl:(d.length:Int) <= 2097152:=by have:d.length <= 2097152:=hd.small;omega
 obtain ⟨a,c,rfl,_⟩:=hd.shape
 obtain ⟨am,cm,rfl,_⟩:=hm.shape
 have AL:Hid (∀ o:Obj,Ints (w.alloc o) (.slice am ms.length cm) ms):=hid fun o=>HM.out.alloc o
 clear hm hd
 by_cases h1:1 <= i
 ·by_cases h2:i < 576460752303423488
  ·by_cases h3:1 <= t
   ·by_cases h4:t <= 1152921504606846976
    ·have HC:=hid (show 1 <= i /\ i < 576460752303423488 /\ 1 <= t /\ t <= 1152921504606846976 from ⟨h1,h2,h3,h4⟩)
     by_cases hm:aD9 ms
     ·have hmb:yQ ms = true:=decide_eq_true hm
      have HMO:=hid hm
      by_cases h5:d.length <= 32768
      ·have HV:Hid ((aZ.mk i t ms d).okB = true):=hid (decide_eq_true ⟨h1,h2,h3,h4,hm,h5⟩)
       rw [HV.out]
       have h5i:(d.length:Int) <= 32768:=by omega
       have HMB:=hid hmb
       clear hm h5 hmb
       go_enter Tryz.func194,Tryz.ntmps194
       go_wp2_with fail
       refine (rZ _ ms _ (AL.out _)).mono ?_
       rintro e w1 ⟨rfl,rfl⟩
       rw [HMB.out]
       go_wp2_with fail
       go_ret
       exact ⟨rfl,(Below.refl _ _).alloc (Nat.le_refl _) _⟩
      ·have HV:Hid ((aZ.mk i t ms d).okB = false):=hid (decide_eq_false fun h=>h5 h.2.2.2.2.2)
       rw [HV.out]
       have h5i:¬ (d.length:Int) <= 32768:=by omega
       have H5B:Hid (decide ((d.length:Int) <= 32768) = false):=hid (decide_eq_false h5i)
       have HMB:=hid hmb
       clear hm h5 hmb
       go_enter Tryz.func194,Tryz.ntmps194
       go_wp2_with fail
       refine (rZ _ ms _ (AL.out _)).mono ?_
       rintro e w1 ⟨rfl,rfl⟩
       rw [HMB.out]
       go_wp2_with fail
       go_ret
       exact ⟨aCX H5B.out,(Below.refl _ _).alloc (Nat.le_refl _) _⟩
     ·have hmb:yQ ms = false:=decide_eq_false hm
      have HV:Hid ((aZ.mk i t ms d).okB = false):=hid (decide_eq_false fun h=>hm h.2.2.2.2.1)
      rw [HV.out]
      have HMB:=hid hmb
      clear hm hmb
      go_enter Tryz.func194,Tryz.ntmps194
      go_wp2_with fail
      refine (rZ _ ms _ (AL.out _)).mono ?_
      rintro e w1 ⟨rfl,rfl⟩
      rw [HMB.out]
      go_wp2_with fail
      go_ret
      exact ⟨rfl,(Below.refl _ _).alloc (Nat.le_refl _) _⟩
    ·have HV:Hid ((aZ.mk i t ms d).okB = false):=hid (decide_eq_false fun h=>h4 h.2.2.2.1)
     rw [HV.out]
     go_enter Tryz.func194,Tryz.ntmps194
     go_wp2_with fail
     go_ret
     exact ⟨rfl,(Below.refl _ _).alloc (Nat.le_refl _) _⟩
   ·have HV:Hid ((aZ.mk i t ms d).okB = false):=hid (decide_eq_false fun h=>h3 h.2.2.1)
    rw [HV.out]
    go_enter Tryz.func194,Tryz.ntmps194
    go_wp2_with fail
    go_ret
    exact ⟨rfl,(Below.refl _ _).alloc (Nat.le_refl _) _⟩
  ·have HV:Hid ((aZ.mk i t ms d).okB = false):=hid (decide_eq_false fun h=>h2 h.2.1)
   rw [HV.out]
   go_enter Tryz.func194,Tryz.ntmps194
   go_wp2_with fail
   go_ret
   exact ⟨rfl,(Below.refl _ _).alloc (Nat.le_refl _) _⟩
 ·have HV:Hid ((aZ.mk i t ms d).okB = false):=hid (decide_eq_false fun h=>h1 h.1)
  rw [HV.out]
  go_enter Tryz.func194,Tryz.ntmps194
  go_wp2_with fail
  go_ret
  exact ⟨rfl,(Below.refl _ _).alloc (Nat.le_refl _) _⟩


def aZ.same (s r:aZ):Prop:=s.i = r.i /\ s.t = r.t /\ s.ms = r.ms /\ s.d = r.d
instance (s r:aZ):Decidable (s.same r):=inferInstanceAs (Decidable (_ /\ _))
def aZ.rI (s r:aZ):Bool:=decide (s.same r)
theorem aZ.zD (s:aZ):s.rI s = true:=decide_eq_true ⟨rfl,rfl,rfl,rfl⟩
set_option maxRecDepth 20000 in
theorem aAV (v1 v2:Value) (s r:aZ) (w:World) (hs:cG w v1 s) (hr:cG w v2 r) :
  Calls Tryz.prog 54 #[v1,v2] w fun e w'=>e = .returned (.bool (s.rI r)) /\ Below w.heap.size w w':=by
 obtain ⟨mv,dv,rfl,hm,hd⟩:=hs
 obtain ⟨nv,ev,rfl,hn,he⟩:=hr
 obtain ⟨i,t,ms,d⟩:=s
 obtain ⟨j,u,ns,e⟩:=r
 simp only at hm hd hn he ⊢
 have hml:(ms.length:Int) <= 2097152:=by have:=hm.small;omega
 have hnl:(ns.length:Int) <= 2097152:=by have:=hn.small;omega
 have c1:∀ o1 o2,(convert 36 9 dv).run Tryz.prog ((w.alloc o1).alloc o2) = .ok (.string (fM d)) ((w.alloc o1).alloc o2):=fun o1 o2=>((hd.alloc o1).alloc o2).str Tryz.underlying36 Tryz.underlying5 Tryz.underlying9
 have c2:∀ o1 o2,(convert 36 9 ev).run Tryz.prog ((w.alloc o1).alloc o2) = .ok (.string (fM e)) ((w.alloc o1).alloc o2):=fun o1 o2=>((he.alloc o1).alloc o2).str Tryz.underlying36 Tryz.underlying5 Tryz.underlying9
 have HDE:Hid (fM d = fM e ↔ d = e):=hid ⟨fun h=>aC9 hd.lt he.lt h,fun h=>by rw [h]⟩
 obtain ⟨am,cm,rfl,_⟩:=hm.shape
 obtain ⟨an,cn,rfl,_⟩:=hn.shape
 have HMC:=hid hm.cells.2.2
 have HNC:=hid hn.cells.2.2
 obtain ⟨dsh,dshape⟩:∃ x:Option Addr × Nat,dv = .slice x.1 d.length x.2:=by obtain ⟨a,c,h,_⟩:=hd.shape;exact ⟨(a,c),h⟩
 obtain ⟨esh,eshape⟩:∃ x:Option Addr × Nat,ev = .slice x.1 e.length x.2:=by obtain ⟨a,c,h,_⟩:=he.shape;exact ⟨(a,c),h⟩
 subst dshape eshape
 clear hm hn hd he
 by_cases q1:i = j
 ·have b1:(i != j) = false:=by simp [q1]
  by_cases q2:t = u
  ·have b2:(t != u) = false:=by simp [q2]
   by_cases q3:ms.length = ns.length
   ·have b3:((ms.length:Int) != (ns.length:Int)) = false:=by rw [q3];simp
    by_cases q4:d = e
    ·have b4:((fM d).toList == (fM e).toList) = true:=aA1 (HDE.out.2 q4)
     have HQ:Hid ((aZ.mk i t ms d).same (aZ.mk j u ns e) ↔ ms = ns):=hid ⟨fun h=>h.2.2.1,fun h=>⟨q1,q2,h,q4⟩⟩
     have Q3:=hid q3
     clear q1 q2 q3 q4 HDE
     go_enter Tryz.func54,Tryz.ntmps54
     go_wp2_with fail
     generalize hW:World.alloc (World.alloc w _) _ = W
     have BW:Hid (Below w.heap.size w W):=hid (by subst hW;exact ((Below.refl _ _).alloc (Nat.le_refl _) _).alloc (by simp) _)
     have a2:W.cell? ⟨w.heap.size,2,none⟩ = some (.slice am ms.length cm):=by subst hW;go_cell
     have a3:W.cell? ⟨w.heap.size + 1,2,none⟩ = some (.slice an ns.length cn):=by subst hW;go_cell
     have sW:w.heap.size + 1 < W.heap.size:=by subst hW;simp
     have A2:=hid a2
     have A3:=hid a3
     clear hW a2 a3 c1 c2 b1 b2 b3 b4
     go_loopw [5] (fun x wr=>∃ k:Nat,k <= ms.length /\ x = .int .i64 k /\ ms.take k = ns.take k /\ Below W.heap.size W wr) (fun x _=>ms.length - (intOf x).toNat)
     case atStart=>exact ⟨0,Nat.zero_le _,rfl,by simp,Below.refl _ _⟩
     case round =>
      obtain ⟨k,hk,rfl,htk,hbl⟩:=hrel
      have HTK:=hid htk
      have HB:=hid hbl
      have a2:=Below.at HB.out A2.out (show w.heap.size < W.heap.size by omega)
      have a3:=Below.at HB.out A3.out sW
      clear htk hbl
      by_cases hlt:k < ms.length
      ·have hlt2:k < ns.length:=by have:=Q3.out;omega
       obtain ⟨b1,o1,rfl,h1⟩:=HMC.out k hlt
       obtain ⟨b2,o2,rfl,h2⟩:=HNC.out k hlt2
       have g1:=Below.at HB.out (Below.at BW.out h1 (World.block_lt_of_cell? _ _ h1)) (Nat.lt_of_lt_of_le (World.block_lt_of_cell? _ _ h1) BW.out.size)
       have g2:=Below.at HB.out (Below.at BW.out h2 (World.block_lt_of_cell? _ _ h2)) (Nat.lt_of_lt_of_le (World.block_lt_of_cell? _ _ h2) BW.out.size)
       have k1:(k:Int) < (ms.length:Int):=by omega
       have k2:(k:Int) < (ns.length:Int):=by omega
       have k0:(0:Int) <= (k:Int):=by omega
       have HTS:Hid (ms.take (k + 1) = ms.take k ++ [ms[k]] /\ ns.take (k + 1) = ns.take k ++ [ns[k]]):=hid ⟨List.take_succ_eq_append_getElem hlt,List.take_succ_eq_append_getElem hlt2⟩
       have HG:Hid (ms = ns -> ms[k] = ns[k]):=hid fun h=>by subst h;rfl
       clear h1 h2
       generalize ms[k] = x at g1 HTS HG
       generalize ns[k] = y at g2 HTS HG
       by_cases hxy:x = y
       ·have bx:(x != y) = false:=by simp [hxy]
        have HXY:=hid hxy
        clear hxy
        go_wp2_with fail
        go_quiet (fail)
        go_wp2_with fail
        go_roundw
        case rel=>exact ⟨k + 1,by omega,by go_num,by rw [HTS.out.1,HTS.out.2,HTK.out,HXY.out],HB.out.trans ((Below.drewN _ _).mono HB.out.size)⟩
        case measure=>simp [intOf];omega
       ·have bx:(x != y) = true:=by simp [hxy]
        have HV:Hid ((aZ.mk i t ms d).rI (aZ.mk j u ns e) = false):=hid (decide_eq_false fun h=>hxy (HG.out (HQ.out.1 h)))
        clear hxy
        go_wp2_with fail
        go_quiet (fail)
        go_wp2_with fail
        go_ret
        exact ⟨by rw [HV.out];rfl,BW.out.trans ((HB.out.trans ((Below.drewN _ _).mono HB.out.size)).mono BW.out.size)⟩
      ·obtain rfl:k = ms.length:=by omega
       have HV:Hid ((aZ.mk i t ms d).rI (aZ.mk j u ns e) = true):=hid (decide_eq_true (HQ.out.2 (by have:=HTK.out;rw [List.take_length,Q3.out,List.take_length] at this;exact this)))
       go_wp2_with fail
       go_ret
       exact ⟨by rw [HV.out];rfl,BW.out.trans (HB.out.mono BW.out.size)⟩
    ·have b4:((fM d).toList == (fM e).toList) = false:=aIx fun h=>q4 (HDE.out.1 h)
     have HV:Hid ((aZ.mk i t ms d).rI (aZ.mk j u ns e) = false):=hid (decide_eq_false fun h=>q4 h.2.2.2)
     rw [HV.out]
     clear q1 q2 q3 q4 HDE
     go_enter Tryz.func54,Tryz.ntmps54
     go_wp2_with fail
     go_ret
     exact ⟨rfl,((Below.refl _ _).alloc (Nat.le_refl _) _).alloc (by simp) _⟩
   ·have b3:((ms.length:Int) != (ns.length:Int)) = true:=by simp;omega
    have HV:Hid ((aZ.mk i t ms d).rI (aZ.mk j u ns e) = false):=hid (decide_eq_false fun h=>q3 (by have:=h.2.2.1;simp only at this;rw [this]))
    rw [HV.out]
    clear q1 q2 q3 HDE
    go_enter Tryz.func54,Tryz.ntmps54
    go_wp2_with fail
    go_ret
    exact ⟨rfl,((Below.refl _ _).alloc (Nat.le_refl _) _).alloc (by simp) _⟩
  ·have b2:(t != u) = true:=by simp [q2]
   have HV:Hid ((aZ.mk i t ms d).rI (aZ.mk j u ns e) = false):=hid (decide_eq_false fun h=>q2 h.2.1)
   rw [HV.out]
   clear q1 q2 HDE
   go_enter Tryz.func54,Tryz.ntmps54
   go_wp2_with fail
   go_ret
   exact ⟨rfl,((Below.refl _ _).alloc (Nat.le_refl _) _).alloc (by simp) _⟩
 ·have b1:(i != j) = true:=by simp [q1]
  have HV:Hid ((aZ.mk i t ms d).rI (aZ.mk j u ns e) = false):=hid (decide_eq_false fun h=>q1 h.1)
  rw [HV.out]
  clear q1 HDE
  go_enter Tryz.func54,Tryz.ntmps54
  go_wp2_with fail
  go_ret
  exact ⟨rfl,((Below.refl _ _).alloc (Nat.le_refl _) _).alloc (by simp) _⟩
end Go.Proofs.YtjdglpcnkiioeaaGreat
namespace Go.Proofs.YtjdglpcnkiioeaaGreat
open Go.RowKit Go.Maps Go.Proofs.Own
variable {rb:Nat}

def H59:Nat:=576460752303423488
def H60:Nat:=1152921504606846976
def memL (m:Nat):Nat -> List Nat -> List Nat
 | 0,l=>l
 | k + 1,l=>dR m (memL m k l)
def oA (m:Nat):Nat -> List Nat -> List Int
 | 0,_=>[]
 | k + 1,l=>oA m k l ++ [(cY m (memL m k l):Int)]
def aBB (m:Nat):Nat -> List Nat -> Bool
 | 0,_=>false
 | k + 1,l=>aBB m k l || dQ m (memL m k l)
theorem wM (m k:Nat) (l:List Nat):(oA m k l).length = k:=by
 induction k with
 | zero=>rfl
 | succ k ih=>simp [oA,ih]
def jL (l:List Nat):List Nat:=dR H59 l
def tQ (l:List Nat):List Nat:=dR H60 (jL l)
def nE (l:List Nat):Nat:=cY 7 (tQ l)
def fA (l:List Nat):List Nat:=dR 7 (tQ l)
def mK (m:Nat) (l:List Nat):List Nat:=memL m (nE l) (fA l)
def xB (m:Nat) (l:List Nat):aZ:=⟨cY H59 l,cY H60 (jL l),oA m (nE l) (fA l),fV 32768 (mK m l)⟩
def aHJ (m:Nat) (l:List Nat):List Nat:=oX 32768 (mK m l)
def aF2 (m:Nat) (l:List Nat):Bool:=(((dQ H59 l || dQ H60 (jL l)) || dQ 7 (tQ l)) || aBB m (nE l) (fA l)) || nO 32768 (mK m l)
theorem aBC (l:List Nat):nE l <= 7:=mI _ _
theorem aH7 {m:Nat} {l:List Nat}:∀ c ∈ dR m l,c ∈ l:=by
 intro c hc
 unfold dR at hc
 split at hc
 ·exact List.mem_of_mem_drop hc
 ·cases hc
theorem aA6 {m:Nat} {l:List Nat}:∀ c ∈ fV m l,c ∈ l:=by
 intro c hc
 unfold fV at hc
 split at hc
 ·exact aH7 c (List.mem_of_mem_take hc)
 ·cases hc
theorem aA5 (m:Nat) (l:List Nat):(fV m l).length <= m:=by
 unfold fV
 split
 ·rw [List.length_take];have:=mI m l;omega
 ·exact Nat.zero_le _

structure bX (w:World) (b:Nat) (i t:Int) (mv dv:Value):Prop where
 c0:w.cell? ⟨b,0,none⟩ = some (.int .u64 i)
 c1:w.cell? ⟨b,1,none⟩ = some (.int .u64 t)
 c2:w.cell? ⟨b,2,none⟩ = some mv
 c3:w.cell? ⟨b,3,none⟩ = some dv
 f0:w.frozen? ⟨b,0,none⟩ = false
 f1:w.frozen? ⟨b,1,none⟩ = false
 f2:w.frozen? ⟨b,2,none⟩ = false
 f3:w.frozen? ⟨b,3,none⟩ = false
theorem bX.lt {w:World} {b:Nat} {i t:Int} {mv dv:Value} (h:bX w b i t mv dv):b < w.heap.size:=World.block_lt_of_cell? _ _ h.c0
theorem bX.kept {w w':World} {b:Nat} {i t:Int} {mv dv:Value} {S:Nat -> Prop} (h:bX w b i t mv dv) (hk:Kept w w' S) (hs:¬ S b):bX w' b i t mv dv :=
 ⟨hk.cell h.c0 hs,hk.cell h.c1 hs,hk.cell h.c2 hs,hk.cell h.c3 hs,(hk.frozen (a:=⟨b,0,none⟩) h.lt hs).trans h.f0,(hk.frozen (a:=⟨b,1,none⟩) h.lt hs).trans h.f1,
  (hk.frozen (a:=⟨b,2,none⟩) h.lt hs).trans h.f2,(hk.frozen (a:=⟨b,3,none⟩) h.lt hs).trans h.f3⟩
theorem bX.below {w w':World} {b:Nat} {i t:Int} {mv dv:Value} (h:bX w b i t mv dv) (hb:Below w.heap.size w w'):bX w' b i t mv dv :=
 h.kept (Kept.aJ hb (S:=fun _=>False) fun k h1 h2=>by omega) fun h=>h
theorem bX.zJ {w:World} {b:Nat} {i t:Int} {mv dv:Value} (h:bX w b i t mv dv) (x:Int):bX (w.setCell ⟨b,0,none⟩ (.int .u64 x)) b x t mv dv:=by
 refine ⟨World.cell?_setCell_same _ _ _ h.c0,?_,?_,?_,by rw [World.frozen?_setCell];exact h.f0,by rw [World.frozen?_setCell];exact h.f1,by rw [World.frozen?_setCell];exact h.f2,by rw [World.frozen?_setCell];exact h.f3⟩
 ·rw [World.cell?_setCell_other _ _ _ _ (by simp)];exact h.c1
 ·rw [World.cell?_setCell_other _ _ _ _ (by simp)];exact h.c2
 ·rw [World.cell?_setCell_other _ _ _ _ (by simp)];exact h.c3
theorem bX.sD {w:World} {b:Nat} {i t:Int} {mv dv:Value} (h:bX w b i t mv dv) (x:Int):bX (w.setCell ⟨b,1,none⟩ (.int .u64 x)) b i x mv dv:=by
 refine ⟨?_,World.cell?_setCell_same _ _ _ h.c1,?_,?_,by rw [World.frozen?_setCell];exact h.f0,by rw [World.frozen?_setCell];exact h.f1,by rw [World.frozen?_setCell];exact h.f2,by rw [World.frozen?_setCell];exact h.f3⟩
 ·rw [World.cell?_setCell_other _ _ _ _ (by simp)];exact h.c0
 ·rw [World.cell?_setCell_other _ _ _ _ (by simp)];exact h.c2
 ·rw [World.cell?_setCell_other _ _ _ _ (by simp)];exact h.c3
theorem bX.kV {w:World} {b:Nat} {i t:Int} {mv dv:Value} (h:bX w b i t mv dv) (x:Value):bX (w.setCell ⟨b,2,none⟩ x) b i t x dv:=by
 refine ⟨?_,?_,World.cell?_setCell_same _ _ _ h.c2,?_,by rw [World.frozen?_setCell];exact h.f0,by rw [World.frozen?_setCell];exact h.f1,by rw [World.frozen?_setCell];exact h.f2,by rw [World.frozen?_setCell];exact h.f3⟩
 ·rw [World.cell?_setCell_other _ _ _ _ (by simp)];exact h.c0
 ·rw [World.cell?_setCell_other _ _ _ _ (by simp)];exact h.c1
 ·rw [World.cell?_setCell_other _ _ _ _ (by simp)];exact h.c3
theorem bX.mB {w:World} {b:Nat} {i t:Int} {mv dv:Value} (h:bX w b i t mv dv) (x:Value):bX (w.setCell ⟨b,3,none⟩ x) b i t mv x:=by
 refine ⟨?_,?_,?_,World.cell?_setCell_same _ _ _ h.c3,by rw [World.frozen?_setCell];exact h.f0,by rw [World.frozen?_setCell];exact h.f1,by rw [World.frozen?_setCell];exact h.f2,by rw [World.frozen?_setCell];exact h.f3⟩
 ·rw [World.cell?_setCell_other _ _ _ _ (by simp)];exact h.c0
 ·rw [World.cell?_setCell_other _ _ _ _ (by simp)];exact h.c1
 ·rw [World.cell?_setCell_other _ _ _ _ (by simp)];exact h.c2

structure aKY (w:World) (b rb:Nat) (m:Nat) (l:List Nat) (bad:Bool) (sb rs base:Nat) (i t:Int) (k:Nat) (mv:Value) (wr:World):Prop where
 rd:dA wr b rb (memL m k l) (bad || aBB m k l)
 sn:bX wr sb i t mv (.slice none 0 0)
 rs:bX wr rs 0 0 (.slice none 0 0) (.slice none 0 0)
 own:cL wr base 3 .i64 mv (oA m k l)
 kept:Kept w wr (fun k=>k = b)
 le:base <= wr.heap.size

def aIS (B:Nat) (v:Value):Prop:=∃ i t mv dv,v = .agg #[i,t,mv,dv] /\ (∀ b,mv.ownBlock = some b -> B <= b) /\ (∀ b,dv.ownBlock = some b -> B <= b)


instance (l:List Nat):Decidable (kY l):=inferInstanceAs (Decidable (_ /\ _))
def yZ (m:Nat) (l:List Nat):Prop:=kY l /\ l.getD 1 0 = 4 /\ pB (aHJ m (aU l)) (aF2 m (aU l)) = 0 /\ (xB m (aU l)).ok
instance (m:Nat) (l:List Nat):Decidable (yZ m l):=inferInstanceAs (Decidable (_ /\ _))
def iO:aZ:=⟨0,0,[],[]⟩
def pX (m:Nat) (l:List Nat):aZ:=if yZ m l then xB m (aU l) else iO
def rH (m:Nat) (l:List Nat):Bool:=decide (yZ m l)
theorem aFw (w:World):cG w (.agg #[.int .u64 0,.int .u64 0,.slice none 0 0,.slice none 0 0]) iO:=⟨_,_,rfl,Ints.nil w,Bytes.nil w⟩
def aEZ (b:Bool) (s:aZ) (w:World):Ending -> World -> Prop:=fun E w'=>∃ v,E = .returned (.tuple #[v,.bool b]) /\ cG w' v s /\ Below w.heap.size w w' /\ aIS w.heap.size v
theorem aCU {m:Nat} {l:List Nat} (h:yZ m l):rH m l = true /\ pX m l = xB m (aU l):=⟨decide_eq_true h,if_pos h⟩
theorem bX.new (w:World):bX (w.alloc (.cells #[.int .u64 0,.int .u64 0,.slice none 0 0,.slice none 0 0] 75)) w.heap.size 0 0 (.slice none 0 0) (.slice none 0 0) :=
 ⟨by go_cell,by go_cell,by go_cell,by go_cell,by simp,by simp,by simp,by simp⟩
theorem bX.iE {w:World} {b:Nat} {i t:Int} {mv dv:Value} (h:bX w b i t mv dv) (i' t':Int) (mv' dv':Value) :
  bX ((((w.setCell ⟨b,0,none⟩ (.int .u64 i')).setCell ⟨b,1,none⟩ (.int .u64 t')).setCell ⟨b,2,none⟩ mv').setCell ⟨b,3,none⟩ dv') b i' t' mv' dv':=(((h.zJ i').sD t').kV mv').mB dv'
theorem Reads.nL {w:World} {k:IntKind} {v:Value} {zs:List Int} (h:Reads w k v zs) {a:Addr} (y:Value) (hne:∀ x,w.cell? a ≠ some (.int k x)):Reads (w.setCell a y) k v zs:=by
 obtain ⟨ad,c,rfl,hc⟩:=h
 refine ⟨ad,c,rfl,fun j hj=>?_⟩
 obtain ⟨b,o,e,h1⟩:=hc j hj
 refine ⟨b,o,e,?_⟩
 rw [World.cell?_setCell_other _ _ _ _ (fun e=>hne _ (by rw [e];exact h1))]
 exact h1
theorem Reads.iE {w:World} {b:Nat} {i t:Int} {mv dv:Value} (S:bX w b i t mv dv) {k:IntKind} {v:Value} {zs:List Int} (h:Reads w k v zs) (hk:k ≠ .u64) (hm:∀ x,mv ≠ .int k x) (hd:∀ x,dv ≠ .int k x) (i' t':Int) (mv' dv':Value) :
  Reads ((((w.setCell ⟨b,0,none⟩ (.int .u64 i')).setCell ⟨b,1,none⟩ (.int .u64 t')).setCell ⟨b,2,none⟩ mv').setCell ⟨b,3,none⟩ dv') k v zs:=by
 have S1:=S.zJ i'
 have S2:=S1.sD t'
 have S3:=S2.kV mv'
 refine Reads.nL (Reads.nL (Reads.nL (Reads.nL h _ fun x e=>?_) _ fun x e=>?_) _ fun x e=>?_) _ fun x e=>?_
 ·rw [S.c0] at e;cases e;exact hk rfl
 ·rw [S1.c1] at e;cases e;exact hk rfl
 ·rw [S2.c2] at e;exact hm x (Option.some.inj e)
 ·rw [S3.c3] at e;exact hd x (Option.some.inj e)
theorem cG.iE {w:World} {b:Nat} {i t:Int} (S:bX w b i t (.slice none 0 0) (.slice none 0 0)) {v:Value} {s:aZ} (h:cG w v s) (i' t':Int) (mv' dv':Value) :
  cG ((((w.setCell ⟨b,0,none⟩ (.int .u64 i')).setCell ⟨b,1,none⟩ (.int .u64 t')).setCell ⟨b,2,none⟩ mv').setCell ⟨b,3,none⟩ dv') v s:=by
 obtain ⟨mv,dv,h1,h2,h3⟩:=h
 exact ⟨mv,dv,h1,⟨h2.shape,Reads.iE S h2.rd (by decide) nofun nofun i' t' mv' dv',h2.small⟩,⟨h3.shape,Reads.iE S h3.rd (by decide) nofun nofun i' t' mv' dv',h3.lt,h3.small⟩⟩
theorem Kept.iE (w:World) (b:Nat) (i' t':Int) (mv' dv':Value) :
  Kept w ((((w.setCell ⟨b,0,none⟩ (.int .u64 i')).setCell ⟨b,1,none⟩ (.int .u64 t')).setCell ⟨b,2,none⟩ mv').setCell ⟨b,3,none⟩ dv') (fun k=>k = b) :=
 (((Kept.setCell w ⟨b,0,none⟩ _).trans (Kept.setCell _ ⟨b,1,none⟩ _)).trans (Kept.setCell _ ⟨b,2,none⟩ _)).trans (Kept.setCell _ ⟨b,3,none⟩ _)

end Go.Proofs.YtjdglpcnkiioeaaGreat
namespace Go.Proofs.YtjdglpcnkiioeaaGreat
open Go.Lib (hid)
open Go.RowKit Go.Maps Go.Proofs.Own

def qE (t v:Int):Bool:=decide (t <= 1152921504606846976) && (decide (-1 <= v) && decide (v < 7))
def vMy (t v t' v':Int):Bool:=qE t v && (qE t' v' && (if t' = t then decide (v' = v) || decide (v = -1) else decide (t < t')))

theorem iV (t v:Int) (w:World):Calls Tryz.prog 195 #[.agg #[.int .u64 t,.int .i64 v]] w fun e w'=>e = .returned (.bool (qE t v)) /\ Below w.heap.size w w':=by
 by_cases h1:t <= 1152921504606846976 <;> by_cases h2:-1 <= v <;> by_cases h3:v < 7
 all_goals try (exfalso;omega)
 all_goals
  have HV:Hid (qE t v = _):=hid (by unfold qE;simp only [h1,h2,h3,decide_true,decide_false,Bool.and_true,Bool.and_false];rfl)
  rw [HV.out]
  go_enter Tryz.func195,Tryz.ntmps195
  go_wp2_with fail
  go_ret
  exact ⟨rfl,(Below.refl _ _).alloc (Nat.le_refl _) _⟩
theorem aAa (t v t' v':Int) (w:World):Calls Tryz.prog 196 #[.agg #[.int .u64 t,.int .i64 v],.agg #[.int .u64 t',.int .i64 v']] w fun e w'=>e = .returned (.bool (vMy t v t' v')) /\ Below w.heap.size w w':=by
 cases ha:qE t v
 ·have HV:Hid (vMy t v t' v' = false):=hid (by unfold vMy;rw [ha];rfl)
  rw [HV.out]
  have HA:=hid ha
  clear ha
  go_enter Tryz.func196,Tryz.ntmps196
  go_wp2_with fail
  refine (iV t v _).mono ?_
  rintro e w1 ⟨rfl,hb⟩
  have B1:Hid (Below w.heap.size w w1):=hid ((((Below.refl _ _).alloc (Nat.le_refl _) _).alloc (by simp) _).trans (hb.mono (by simp;omega)))
  rw [HA.out]
  clear hb
  go_wp2_with fail
  go_ret
  exact ⟨rfl,B1.out⟩
 ·have HA:=hid ha
  cases hb:qE t' v'
  all_goals
   have HB:=hid hb
   go_enter Tryz.func196,Tryz.ntmps196
   go_wp2_with fail
   refine (iV t v _).mono ?_
   rintro e w1 ⟨rfl,hb1⟩
   have B1:Hid (Below w.heap.size w w1):=hid ((((Below.refl _ _).alloc (Nat.le_refl _) _).alloc (by simp) _).trans (hb1.mono (by simp;omega)))
   have X1:Hid ((w1.cell? ⟨w.heap.size,0,none⟩ = some (.int .u64 t) /\ w1.cell? ⟨w.heap.size,1,none⟩ = some (.int .i64 v)) /\ w1.cell? ⟨w.heap.size + 1,0,none⟩ = some (.int .u64 t') /\ w1.cell? ⟨w.heap.size + 1,1,none⟩ = some (.int .i64 v')):=Lib.hid
    ⟨⟨(hb1.cell (p:=⟨w.heap.size,0,none⟩) (by simp;omega)).trans (by go_cell),(hb1.cell (p:=⟨w.heap.size,1,none⟩) (by simp;omega)).trans (by go_cell)⟩,
     (hb1.cell (p:=⟨w.heap.size + 1,0,none⟩) (by simp)).trans (by go_cell),(hb1.cell (p:=⟨w.heap.size + 1,1,none⟩) (by simp)).trans (by go_cell)⟩
   rw [HA.out]
   clear hb1
   obtain ⟨⟨x0,x1⟩,x2,x3⟩:=X1.out
   go_wp2_with fail
   refine (iV t' v' w1).mono ?_
   rintro e w2 ⟨rfl,hb2⟩
   have B2:Hid (Below w.heap.size w w2):=hid (B1.out.trans (hb2.mono B1.out.size))
   have X2:Hid ((w2.cell? ⟨w.heap.size,0,none⟩ = some (.int .u64 t) /\ w2.cell? ⟨w.heap.size,1,none⟩ = some (.int .i64 v)) /\ w2.cell? ⟨w.heap.size + 1,0,none⟩ = some (.int .u64 t') /\ w2.cell? ⟨w.heap.size + 1,1,none⟩ = some (.int .i64 v')):=Lib.hid
    ⟨⟨(hb2.cell (p:=⟨w.heap.size,0,none⟩) (World.block_lt_of_cell? _ _ x0)).trans x0,(hb2.cell (p:=⟨w.heap.size,1,none⟩) (World.block_lt_of_cell? _ _ x1)).trans x1⟩,
     (hb2.cell (p:=⟨w.heap.size + 1,0,none⟩) (World.block_lt_of_cell? _ _ x2)).trans x2,(hb2.cell (p:=⟨w.heap.size + 1,1,none⟩) (World.block_lt_of_cell? _ _ x3)).trans x3⟩
   rw [HB.out]
   clear hb2 x0 x1 x2 x3 hb
  ·have HV:Hid (vMy t v t' v' = false):=hid (by unfold vMy;rw [HA.out,HB.out];rfl)
   clear ha
   go_wp2_with fail
   go_ret
   exact ⟨by simp [HV.out],B2.out⟩
  ·have HV:Hid (vMy t v t' v' = if t' = t then decide (v' = v) || decide (v = -1) else decide (t < t')):=hid (by unfold vMy;rw [HA.out,HB.out];rfl)
   clear ha
   obtain ⟨⟨x0,x1⟩,x2,x3⟩:=X2.out
   by_cases h:t' = t
   ·subst h
    by_cases h5:v' = v
    ·subst h5
     go_wp2_with fail
     go_ret
     exact ⟨by rw [HV.out];simp,B2.out⟩
    ·by_cases h6:v = -1
     ·subst h6
      have h7:(v' == -1) = false:=by simpa using h5
      go_wp2_with fail
      go_ret
      exact ⟨by rw [HV.out];simp,B2.out⟩
     ·have h7:(v' == v) = false:=by simpa using h5
      have h8:(v == -1) = false:=by simpa using h6
      go_wp2_with fail
      go_ret
      exact ⟨by rw [HV.out];simp [h5,h6],B2.out⟩
   ·have h7:(t' == t) = false:=by simpa using h
    by_cases h5:t < t'
    all_goals
     go_wp2_with fail
     go_ret
     exact ⟨by rw [HV.out];simp [h,h5],B2.out⟩


set_option maxRecDepth 20000 in
theorem aEh (v:Value) (l:List Nat) (w:World) (hB:Bytes w v l) (ht:kY l) (h4:l.getD 1 0 = 4) (he:pB (aHJ 7 (aU l)) (aF2 7 (aU l)) = 0) (hok:(xB 7 (aU l)).ok):Calls Tryz.prog 147 #[v] w (aEZ (rH 7 l) (pX 7 l) w):=by
 have HB:=hid hB
 have HV:Hid (rH 7 l = true /\ pX 7 l = xB 7 (aU l)):=hid (aCU ⟨ht,h4,he,hok⟩)
 have HE:=hid he
 have HOK:Hid ((xB 7 (aU l)).okB = true):=hid (decide_eq_true hok)
 clear he hok
 have HT:=hid ht
 have HF:Hid (l.getD 1 0 = 4):=hid h4
 have E59:Hid ((576460752303423488:Int).toNat = H59):=hid rfl
 have E60:Hid ((1152921504606846976:Int).toNat = H60):=hid rfl
 have E7:Hid ((7:Int).toNat = 7):=hid rfl
 obtain ⟨a,c,rfl,_⟩:=hB.shape
 clear hB ht h4
 go_enter Tryz.func147,Tryz.ntmps147
 go_wp2_with fail
 refine (aHa _ l _ (HB.out.alloc _)).mono ?_
 rintro e w1 ⟨hb1,hno,hyes⟩
 obtain ⟨v1,rfl,hB1⟩:=hyes HT.out
 rw [HF.out]
 have HB1:=hid hB1
 have RB:∃ rb:Nat,rb < w1.heap.size /\ (aU l = [] \/ v1.ownBlock = some rb):=by
  by_cases h0:aU l = []
  ·exact ⟨w.heap.size,((bX.new w).below hb1).lt,.inl h0⟩
  ·obtain ⟨b,e1,e2⟩:=HB1.out.lT h0
   exact ⟨b,e2,.inr e1⟩
 obtain ⟨rb,hrb,hown⟩:=RB
 have HO:=hid hown
 clear hown
 obtain ⟨a1,c1,rfl,_⟩:=hB1.shape
 clear hB1
 have B1:Hid (Below w.heap.size w w1):=hid (((Below.refl w.heap.size w).alloc (Nat.le_refl _) (.cells #[.int .u64 0,.int .u64 0,.slice none 0 0,.slice none 0 0] 75)).trans (hb1.mono (by simp)))
 have S1:Hid (bX w1 w.heap.size 0 0 (.slice none 0 0) (.slice none 0 0)):=hid ((bX.new w).below hb1)
 obtain ⟨r0,r1,r2,r3,q0,q1,q2,q3⟩:=S1.out
 have L1:=S1.out.lt
 clear hb1 hno hyes
 go_wp2_with fail
 refine (lF _ (aU l) _ HB1.out HO.out (by omega)).mono ?_
 rintro e w2 ⟨rfl,h2,hb2⟩
 have R2:=hid h2
 have B2:=hid hb2
 have hs2:=hb2.size
 have L2:=h2.lt
 clear h2 hb2 r0 r1 r2 r3 q0 q1 q2 q3
 have S2:Hid (bX w2 w.heap.size 0 0 (.slice none 0 0) (.slice none 0 0)):=hid (S1.out.below B2.out)
 generalize hbd:aU l = bd at *
 go_wp2_with fail
 refine (fT w1.heap.size 576460752303423488 bd false _ R2.out (by decide) (by decide)).mono ?_
 rintro e w3 ⟨rfl,h1,k1⟩
 rw [E59.out] at h1 ⊢
 have R3:Hid (dA w3 w1.heap.size rb (jL bd) (dQ H59 bd)):=hid (by rw [Bool.false_or] at h1;exact h1)
 have K3:=hid k1
 have hs3:=k1.size
 clear h1 k1
 go_wp2_with fail
 refine (fT w1.heap.size 1152921504606846976 (jL bd) _ _ R3.out (by decide) (by decide)).mono ?_
 rintro e w4 ⟨rfl,h1,k1⟩
 rw [E60.out] at h1 ⊢
 have R4:=hid h1
 have K4:=hid k1
 have hs4:=k1.size
 clear h1 k1
 have A4:Hid (Kept w2 w4 (fun k=>k = w1.heap.size)):=hid (K3.out.trans K4.out)
 go_wp2_with fail
 generalize hW:World.alloc w4 _ = w5
 have B5:Hid (Below w4.heap.size w4 w5):=hid (by subst hW;exact (Below.refl _ _).alloc (Nat.le_refl _) _)
 have S5:Hid (bX w5 w4.heap.size (cY H59 bd) (cY H60 (jL bd)) (.slice none 0 0) (.slice none 0 0)):=hid (by subst hW;exact ⟨by go_cell,by go_cell,by go_cell,by go_cell,by simp,by simp,by simp,by simp⟩)
 clear hW
 have R5:Hid (dA w5 w1.heap.size rb (tQ bd) (dQ H59 bd || dQ H60 (jL bd))):=hid (R4.out.below B5.out)
 have T5:Hid (bX w5 w.heap.size 0 0 (.slice none 0 0) (.slice none 0 0)):=hid (((S2.out.kept A4.out (by omega))).below B5.out)
 have A5:Hid (Kept w2 w5 (fun k=>k = w1.heap.size)):=hid (A4.out.trans (Kept.aJ B5.out (S:=fun k=>k = w1.heap.size) (fun k h1 h2=>by omega)))
 have hsb:=S5.out.lt
 generalize hSB:w4.heap.size = sb at *
 have hsb2:w2.heap.size <= sb:=by omega
 refine (fT w1.heap.size 7 (tQ bd) _ _ R5.out (by decide) (by decide)).mono ?_
 rintro e w6 ⟨rfl,h1,k1⟩
 rw [E7.out] at h1 ⊢
 have hn7:((nE bd:Nat):Int) <= 7:=by have:=aBC bd;omega
 have R6:Hid (dA w6 w1.heap.size rb (fA bd) ((dQ H59 bd || dQ H60 (jL bd)) || dQ 7 (tQ bd))):=hid h1
 have K6:=hid k1
 have hs6:=k1.size
 clear h1 k1
 rw [show cY 7 (tQ bd) = nE bd from rfl]
 have S6:Hid (bX w6 sb (cY H59 bd) (cY H60 (jL bd)) (.slice none 0 0) (.slice none 0 0)):=hid (S5.out.kept K6.out (by omega))
 have T6:Hid (bX w6 w.heap.size 0 0 (.slice none 0 0) (.slice none 0 0)):=hid (T5.out.kept K6.out (by omega))
 have A6:Hid (Kept w2 w6 (fun k=>k = w1.heap.size)):=hid (A5.out.trans K6.out)
 generalize hX:((dQ H59 bd || dQ H60 (jL bd)) || dQ 7 (tQ bd)) = bad3 at R6
 have HBX:=hid hX
 clear hX
 go_wp2_with fail
 go_loopw [31] (fun x wr=>∃ (k:Nat) (mv:Value),k <= nE bd /\ x = .int .u64 k /\ aKY w2 w1.heap.size rb 7 (fA bd) bad3 sb w.heap.size (sb + 1) (cY H59 bd) (cY H60 (jL bd)) k mv wr) (fun x _=>nE bd - (intOf x).toNat)
 case atStart=>exact ⟨0,_,Nat.zero_le _,rfl,by rw [memL,aBB,Bool.or_false];exact R6.out,S6.out,T6.out,cL.nil _ _ _ _,A6.out,by omega⟩
 case round =>
  obtain ⟨k,mv,hk,rfl,hI⟩:=hrel
  have I:=hid hI
  have hsz:=hI.le
  clear hI
  by_cases hlt:k < nE bd
  ·have hv6:((cY 7 (memL 7 k (fA bd)):Nat):Int) <= 7:=by have:=mI 7 (memL 7 k (fA bd));omega
   have hki:(k:Int) < (nE bd:Int):=by omega
   have HLN:Hid ((oA 7 k (fA bd)).length + [((cY 7 (memL 7 k (fA bd)):Nat):Int)].length <= 4294967296):=hid (by rw [wM];simp only [List.length_cons,List.length_nil];have:=aBC bd;omega)
   have hw6:IntKind.i64.wrap ((cY 7 (memL 7 k (fA bd)):Nat):Int) = ((cY 7 (memL 7 k (fA bd)):Nat):Int):=by simp only [IntKind.wrap_i64];omega
   go_wp2_with fail
   refine aN [0,1,0,4,12,28,63,127,255] 24 (fun w'=>w'.cell? ⟨sb,2,none⟩ = some mv) (by kernel_rfl) ?_
   refine aB [0,1,2] (by kernel_rfl) (L:=bm 9 7) (by kernel_rfl) (f':=6) rfl (fun _ _ _ _ h=>h) (fun w o h=>(aP.cell _ _).alloc h o) (.inr I.out.sn.c2) ?_
   simp only [sF,sL]
   iterate 3 (first | (refine aQ _ (by rfl) (fun w' hs=>by have y0:=hs;go_simp;try with_reducible rfl) rfl ?_;simp only [Act.put,sA]) | (refine aD _ (by rfl) (fun w'=>by go_simp;try with_reducible rfl) ?_;simp only [Act.put,sA]))
   refine aE ?_
   refine aI 3 (by kernel_rfl) (L:=bm 9 15) (by kernel_rfl) ?_
   simp only [sL]
   go_wp2_with fail;refine (fT w1.heap.size 7 _ _ _ (I.out.rd.below ((Below.refl _ _).drew)) (by decide) (by decide)).mono ?_;rintro e u3 ⟨rfl,h3,k3⟩;rw [E7.out] at h3 ⊢;have H3:=hid h3;have K3:Hid (Kept wr u3 (fun k=>k = w1.heap.size)):=hid ((Kept.drew wr (fun k=>k = w1.heap.size)).trans k3);clear h3 k3;have S3:Hid (bX u3 sb (cY H59 bd) (cY H60 (jL bd)) mv (.slice none 0 0)):=hid (I.out.sn.kept K3.out (by omega));have S4:Hid (bX u3 w.heap.size 0 0 (.slice none 0 0) (.slice none 0 0)):=hid (I.out.rs.kept K3.out (by omega));have LE3:Hid (sb + 1 <= u3.heap.size):=hid (Nat.le_trans I.out.le K3.out.size);have O3:Hid (cL u3 (sb + 1) 3 .i64 mv (oA 7 k (fA bd))):=hid (I.out.own.kept K3.out (fun g hg e=>by have:=(I.out.own.lt g hg).1;omega));go_wp2_with fail
   refine aF (fun _=>S3.out.c2) ?_
   refine aB [4] (by kernel_rfl) (L:=bm 9 31) (by kernel_rfl) (f':=4) rfl (fun _ _ _ _ h=>h) (fun w o h=>(aP.cell _ _).alloc h o) (.inr (by first | exact S3.out.c2 | exact aFE S3.out.c2)) ?_
   simp only [sF,sL]
   iterate 1 (first | (refine aQ _ (by rfl) (fun w' hs=>by have y0:=hs;go_simp;try with_reducible rfl) rfl ?_;simp only [Act.put,sA]) | (refine aD _ (by rfl) (fun w'=>by go_simp;try with_reducible rfl) ?_;simp only [Act.put,sA]))
   refine aE ?_
   refine aI 5 (by kernel_rfl) (L:=bm 9 63) (by kernel_rfl) ?_
   simp only [sL]
   go_wp2_with fail;generalize hu5:World.alloc _ _ = u5;have B5:Hid (Below u3.heap.size u3 u5):=hid (by subst hu5;first | exact (Below.refl _ _).alloc (Nat.le_refl _) _ | exact ((Below.refl _ _).drew).alloc (Nat.le_refl _) _ | exact (((Below.refl _ _).drew).drew).alloc (Nat.le_refl _) _);have ONE5:Hid (Reads u5 .i64 (.slice (some ⟨u3.heap.size,0,none⟩) 1 1) [((cY 7 (memL 7 k (fA bd)):Nat):Int)]):=hid (by subst hu5;first | exact Reads.one _ _ _ _);clear hu5
   refine aF nofun ?_
   refine aI 6 (by kernel_rfl) (L:=bm 9 127) (by kernel_rfl) ?_
   simp only [sL]
   refine cI Tryz.aK4 _ _ rfl (sb + 1) mv (.slice (some ⟨u3.heap.size,0,none⟩) 1 1) (oA 7 k (fA bd)) [((cY 7 (memL 7 k (fA bd)):Nat):Int)] rfl rfl (by first | exact O3.out.below B5.out | exact (O3.out.below B5.out).drew) (by first | exact ONE5.out | exact ONE5.out.drew) (by decide) HLN.out (by have:=LE3.out;have:=B5.out.size;first | omega | (simp only [World.size_drew];omega)) rfl ?_;intro v6 u6 hown6 hgr6 hat6 hnil6 hbel6;obtain ⟨a6,c6,rfl⟩:=hown6.shape;have O6:Hid (cL u6 (sb + 1) 3 .i64 (.slice a6 ((oA 7 k (fA bd)).length + 1) c6) (oA 7 k (fA bd) ++ [((cY 7 (memL 7 k (fA bd)):Nat):Int)])):=hid (by have hh:=hown6;rw [List.length_append] at hh;exact hh);have OL6:=O3.out.lt;have G6:Hid (Kept u5 u6 (fun g=>mv.ownBlock = some g)):=hid (by first | exact Kept.cK hgr6 | exact (Kept.drew u5 _).trans (Kept.cK hgr6));have S6:Hid (bX u6 sb (cY H59 bd) (cY H60 (jL bd)) mv (.slice none 0 0)):=hid ((S3.out.below B5.out).kept G6.out (fun e=>by have:=(OL6 _ e).1;omega));have S7:Hid (bX u6 w.heap.size 0 0 (.slice none 0 0) (.slice none 0 0)):=hid ((S4.out.below B5.out).kept G6.out (fun e=>by have:=(OL6 _ e).1;omega));have R6:Hid (dA u6 w1.heap.size rb (dR 7 (memL 7 k (fA bd))) ((bad3 || aBB 7 k (fA bd)) || dQ 7 (memL 7 k (fA bd)))):=hid ((H3.out.below B5.out).kept G6.out (fun e=>by have:=(OL6 _ e).1;omega) (fun e=>by have:=(OL6 _ e).1;omega));have K6:Hid (Kept w2 u6 (fun k=>k = w1.heap.size)):=hid (((I.out.kept.trans K3.out).trans (Kept.aJ B5.out (S:=fun k=>k = w1.heap.size) (fun k h1 h2=>by omega))).andThen G6.out (fun g hg e=>by rcases e with e | e;exact e;have:=(OL6 _ e).1;omega));have Z6:Hid (sb + 1 <= u6.heap.size):=hid (by have:=LE3.out;have:=B5.out.size;have:=G6.out.size;omega);clear hown6 hgr6 hat6 hnil6 hbel6 OL6;go_wp2_with fail
   refine aF nofun ?_
   refine aB [7] (by kernel_rfl) (L:=bm 9 255) (by kernel_rfl) (f':=1) rfl (fun _ _ _ _ h=>h) (fun w o h=>(aP.cell _ _).alloc h o) (.inl (by kernel_rfl)) ?_
   simp only [sF,sL]
   iterate 1 (refine aD _ (by rfl) (fun w'=>by go_simp;try with_reducible rfl) ?_;simp only [Act.put,sA])
   refine aE ?_
   refine aI 8 (by kernel_rfl) (L:=bm 9 511) (by kernel_rfl) ?_
   simp only [sL]
   obtain ⟨g1,g2,g3⟩:u6.cell? ⟨sb,2,none⟩ = some mv /\ u6.frozen? ⟨sb,2,none⟩ = false /\ sb < u6.heap.size:=⟨S6.out.c2,S6.out.f2,S6.out.lt⟩;go_wp2_with fail;generalize hu8:World.setCell _ _ _ = u8;have S8:Hid (bX u8 sb (cY H59 bd) (cY H60 (jL bd)) (.slice a6 ((oA 7 k (fA bd)).length + 1) c6) (.slice none 0 0)):=hid (by subst hu8;exact S6.out.kV _);have G8:Hid (Kept u6 u8 (fun g=>g = sb)):=hid (by subst hu8;exact Kept.setCell u6 ⟨sb,2,none⟩ _);clear hu8 g1 g2 g3
   refine aF nofun ?_
   refine aT (by kernel_rfl) ?_
   clear hw6
   go_wp2_with fail
   go_roundw
   case rel =>
    refine ⟨k + 1,_,by omega,by go_num,?_,S8.out,S7.out.kept G8.out (by omega),O6.out.kept G8.out (fun g hg e=>by have:=(O6.out.lt g hg).1;omega),K6.out.iG G8.out (by omega),by have:=Z6.out;have:=G8.out.size;omega⟩
    have hr:=R6.out.kept G8.out (by omega) (by omega)
    rw [Bool.or_assoc] at hr
    exact hr
   case measure=>simp [intOf];omega
  ·obtain rfl:k = nE bd:=by omega
   have RL:Hid (dA wr w1.heap.size rb (mK 7 bd) (bad3 || aBB 7 (nE bd) (fA bd))):=hid I.out.rd
   go_wp2_with fail
   refine (aAU w1.heap.size 32768 _ _ _ RL.out (by decide)).mono ?_
   rintro e w7 ⟨rfl,h7,k7⟩
   have H7:=hid h7
   have K7:=hid k7
   have hs7:=k7.size
   clear h7 k7
   have S7:Hid (bX w7 sb (cY H59 bd) (cY H60 (jL bd)) mv (.slice none 0 0)):=hid (I.out.sn.kept K7.out (by omega))
   have T7:Hid (bX w7 w.heap.size 0 0 (.slice none 0 0) (.slice none 0 0)):=hid (I.out.rs.kept K7.out (by omega))
   have O7:Hid (cL w7 (sb + 1) 3 .i64 mv (oA 7 (nE bd) (fA bd))):=hid (I.out.own.kept K7.out (fun g hg e=>by have:=(I.out.own.lt g hg).1;omega))
   obtain ⟨am,cm,rfl⟩:=O7.out.shape
   have TS:Hid ((fM (fV 32768 (mK 7 bd))).size <= 2097152):=hid (by rw [lG];have:=aA5 32768 (mK 7 bd);omega)
   have HTX:Hid (bF (fM (fV 32768 (mK 7 bd))) = fV 32768 (mK 7 bd)):=hid (gT fun c hc=>by obtain ⟨v,_,hB,_⟩:=RL.out.ex;exact hB.lt c (aA6 c hc))
   have A7:Hid (Kept w2 w7 (fun k=>k = w1.heap.size)):=hid (I.out.kept.trans K7.out)
   go_wp2_with (refine oZ rfl 9 36 5 _ rfl Tryz.underlying9 Tryz.underlying36 Tryz.underlying5 _ rfl TS.out ?_;intro dv w8 hB8 hb8 hob8;have OB8:=hid hob8;clear hob8;obtain ⟨ad,cd,rfl,_⟩:=hB8.shape;have HB8:=hid hB8;have B8:=hid hb8;obtain ⟨g1,g2,g3⟩:w8.cell? ⟨sb,3,none⟩ = some (.slice none 0 0) /\ w8.frozen? ⟨sb,3,none⟩ = false /\ sb < w8.heap.size:=⟨(S7.out.below B8.out).c3,(S7.out.below B8.out).f3,(S7.out.below B8.out).lt⟩;clear hB8 hb8)
   generalize hwF:World.setCell _ _ _ = w9
   have S9:Hid (bX w9 sb (cY H59 bd) (cY H60 (jL bd)) (.slice am (oA 7 (nE bd) (fA bd)).length cm) (.slice ad (bF (fM (fV 32768 (mK 7 bd)))).length cd)):=hid (by subst hwF;exact (S7.out.below B8.out).mB _)
   have K9:Hid (Kept w8 w9 (fun k=>k = sb)):=hid (by subst hwF;exact Kept.setCell w8 ⟨sb,3,none⟩ _)
   have T9:Hid (bX w9 w.heap.size 0 0 (.slice none 0 0) (.slice none 0 0)):=hid ((T7.out.below B8.out).kept K9.out (by omega))
   have R9:Hid (dA w9 w1.heap.size rb (aHJ 7 bd) (aF2 7 bd)):=hid (by
    have hh:=(H7.out.below B8.out).kept K9.out (by omega) (by omega)
    rw [show aF2 7 bd = ((bad3 || aBB 7 (nE bd) (fA bd)) || nO 32768 (mK 7 bd)) by rw [<- HBX.out];rfl]
    exact hh)
   have HI9:Hid (Ints w9 (.slice am (oA 7 (nE bd) (fA bd)).length cm) (xB 7 bd).ms):=hid (Ints.eE ((O7.out.below B8.out).kept K9.out (fun g hg e=>by have:=(O7.out.lt g hg).1;omega)) (by show (oA 7 (nE bd) (fA bd)).length <= 2097152;rw [wM];have:=aBC bd;omega))
   have HD9:Hid (Bytes w9 (.slice ad (bF (fM (fV 32768 (mK 7 bd)))).length cd) (xB 7 bd).d):=hid (by
    have hh:=HB8.out
    have ho:=OB8.out
    rw [HTX.out] at hh ho ⊢
    exact hh.aBv K9.out (.inr ho) (by omega))
   have SN9:Hid (cG w9 (.agg #[.int .u64 (cY H59 bd),.int .u64 (cY H60 (jL bd)),.slice am (oA 7 (nE bd) (fA bd)).length cm,.slice ad (bF (fM (fV 32768 (mK 7 bd)))).length cd]) (xB 7 bd)):=hid ⟨_,_,rfl,HI9.out,HD9.out⟩
   have Q9:Hid (Below w.heap.size w w9):=hid (B1.out.trans (((B2.out.mono B1.out.size).trans ((A7.out.below (B:=w.heap.size) (by omega) (fun k hk=>by omega)).trans (B8.out.mono (by omega)))).trans (K9.out.below (B:=w.heap.size) (by have:=B8.out.size;omega) (fun k hk=>by omega))))
   clear hwF g1 g2 g3
   generalize (bF (fM (fV 32768 (mK 7 bd)))).length = dl at *
   generalize (oA 7 (nE bd) (fA bd)).length = ml at *
   generalize hI3:(cY H59 bd:Int) = I3 at *
   generalize hT3:(cY H60 (jL bd):Int) = T3 at *
   refine (lU w1.heap.size _ _ _ R9.out).mono ?_
   rintro e w9' ⟨rfl,rfl⟩
   rw [HE.out]
   obtain ⟨r0,r1,r2,r3,q0,q1,q2,q3⟩:=T9.out
   obtain ⟨y0,y1,y2,y3,_,_,_,_⟩:=S9.out
   have L9:=T9.out.lt
   go_wp2_with fail
   refine (vI _ _ _ SN9.out).mono ?_
   rintro e wa ⟨rfl,hba⟩
   rw [HOK.out]
   have Ba:=hid hba
   have Ta:Hid (bX wa w.heap.size 0 0 (.slice none 0 0) (.slice none 0 0)):=hid (T9.out.below Ba.out)
   have Sa:Hid (bX wa sb I3 T3 (.slice am ml cm) (.slice ad dl cd)):=hid (S9.out.below Ba.out)
   have Qa:Hid (Below w.heap.size w wa):=hid (Q9.out.trans (Ba.out.mono Q9.out.size))
   clear hba r0 r1 r2 r3 q0 q1 q2 q3 y0 y1 y2 y3
   obtain ⟨r0,r1,r2,r3,q0,q1,q2,q3⟩:=Ta.out
   obtain ⟨y0,y1,y2,y3,_,_,_,_⟩:=Sa.out
   have La:=Ta.out.lt
   go_wp2_with fail
   generalize hwF:World.setCell _ _ _ = wF
   have KF:Hid (Kept wa wF (fun k=>k = w.heap.size)):=hid (by subst hwF;exact Kept.iE _ _ _ _ _ _)
   have HR:Hid (bX wF w.heap.size I3 T3 (.slice am ml cm) (.slice ad dl cd)):=hid (by subst hwF;exact Ta.out.iE _ _ _ _)
   have HSN:Hid (cG wF (.agg #[.int .u64 I3,.int .u64 T3,.slice am ml cm,.slice ad dl cd]) (xB 7 bd)):=hid (by subst hwF;exact cG.iE Ta.out (SN9.out.below Ba.out) _ _ _ _)
   clear hwF r0 r1 r2 r3 q0 q1 q2 q3 y0 y1 y2 y3
   obtain ⟨z0,z1,z2,z3,_,_,_,_⟩:=HR.out
   refine bodyPost_ret (v:=.tuple #[.agg #[.int .u64 I3,.int .u64 T3,.slice am ml cm,.slice ad dl cd],.bool true]) (by simp [results,Tryz.results147,go_sem,z0,z1,z2,z3]) rfl ?_
   rw [HV.out.1,HV.out.2]
   exact ⟨_,rfl,HSN.out,Qa.out.trans ((KF.out.below (B:=w.heap.size) Qa.out.size (fun k hk=>by omega))),_,_,_,_,rfl,fun g hg=>by have:=(O7.out.lt g hg).1;omega,fun g hg=>by have:=OB8.out;rw [hg] at this;cases this;omega⟩

theorem aGz (v:Value) (l:List Nat) (w:World) (hB:Bytes w v l) (h:rH 7 l = true):Calls Tryz.prog 147 #[v] w (aEZ (rH 7 l) (pX 7 l) w):=by
 obtain ⟨ht,hk,he,hok⟩:=of_decide_eq_true h
 exact aEh v l w hB ht hk he hok
end Go.Proofs.YtjdglpcnkiioeaaGreat
