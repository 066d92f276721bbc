/- Several texts in one: Sq, Lg, Lh, Li, Sgc, Lo, Sgb, Sgr for vltkeeps_law_holds. No conditions but those stated. -/
import Derived.Test.YtjdglpcnkiioeaaGreatVkb30
import Derived.Test.YtjdglpcnkiioeaaGreatVkb18
import Derived.Test.YtjdglpcnkiioeaaGreatVkb7
import Derived.Test.YtjdglpcnkiioeaaGreatVkb29
import Derived.Test.YtjdglpcnkiioeaaGreatVkb6
import Derived.Test.YtjdglpcnkiioeaaGreatVkb11
set_option maxHeartbeats 16000000
namespace Go.Proofs.YtjdglpcnkiioeaaGreat
open Go.Lib (hid)
open Go.RowKit Go.Maps Go.Proofs.Own

theorem Ints.lS {w w':World} {v:Value} {l:List Int} {S:Nat -> Prop} (h:Ints w v l) (hk:Kept w w' S) (hs:l ≠ [] -> ∀ b,v.ownBlock = some b -> ¬ S b):Ints w' v l:=by
 by_cases hl:l = []
 ·subst hl
  exact ⟨h.shape,by obtain ⟨a,c,rfl,_⟩:=h.shape;exact Reads.nil _ _ _ _,h.small⟩
 ·exact h.kept hk (hs hl)
theorem Ints.blk {w:World} {v:Value} {l:List Int} (h:Ints w v l) (hne:l ≠ []):∀ b,v.ownBlock = some b -> b < w.heap.size:=fun b hb=>by
 obtain ⟨a,c,rfl,hc⟩:=h.rd
 obtain ⟨b',o,rfl,h1⟩:=hc 0 (List.length_pos_iff.2 hne)
 obtain rfl:b' = b:=Option.some.inj hb
 exact World.block_lt_of_cell? _ _ h1
theorem Bytes.blk {w:World} {v:Value} {l:List Nat} (h:Bytes w v l) (hne:l ≠ []):∀ b,v.ownBlock = some b -> b < w.heap.size:=fun b hb=>by
 obtain ⟨b',h1,h2⟩:=h.lT hne
 rw [hb] at h1
 obtain rfl:=Option.some.inj h1
 exact h2
def cM (R:Nat -> Prop) (w:World) (sb db mb tb:Nat) (s:aZ):Prop :=
 ∃ mv dv,jH w sb db s.i s.t mv dv /\ Ints w mv s.ms /\ Bytes w dv s.d /\ (∀ b,mv.ownBlock = some b -> ¬ bB db mb tb b /\ b ≠ sb) /\ (∀ b,dv.ownBlock = some b -> ¬ bB db mb tb b /\ b ≠ sb) /\ ¬ bB db mb tb sb /\ (s.ms ≠ [] -> ∀ b,mv.ownBlock = some b -> R b) /\ (s.d ≠ [] -> ∀ b,dv.ownBlock = some b -> R b)
theorem cM.mk' {R:Nat -> Prop} {w:World} {sb db mb tb:Nat} {s:aZ} {mv dv:Value} (h1:jH w sb db s.i s.t mv dv) (h2:Ints w mv s.ms) (h3:Bytes w dv s.d) (h4:∀ b,mv.ownBlock = some b -> ¬ bB db mb tb b /\ (b ≠ sb /\ R b)) (h5:∀ b,dv.ownBlock = some b -> ¬ bB db mb tb b /\ (b ≠ sb /\ R b)) (h6:¬ bB db mb tb sb):cM R w sb db mb tb s :=
 ⟨mv,dv,h1,h2,h3,fun b hb=>⟨(h4 b hb).1,(h4 b hb).2.1⟩,fun b hb=>⟨(h5 b hb).1,(h5 b hb).2.1⟩,h6,fun _ b hb=>(h4 b hb).2.2,fun _ b hb=>(h5 b hb).2.2⟩
theorem cM.is {R:Nat -> Prop} {w:World} {sb db mb tb:Nat} {s:aZ} (h:cM R w sb db mb tb s):fQ w sb db mb tb s :=
 let ⟨mv,dv,h1,h2,h3,h4,h5,h6,_⟩:=h
 ⟨mv,dv,h1,h2,h3,h4,h5,h6⟩
theorem cM.nW {R:Nat -> Prop} {w w':World} {sb db mb tb:Nat} {s:aZ} {S:Nat -> Prop} (h:cM R w sb db mb tb s) (hk:Kept w w' S) (h0:¬ S sb) (hs:∀ k,S k -> bB db mb tb k \/ ¬ R k):cM R w' sb db mb tb s:=by
 obtain ⟨mv,dv,h1,h2,h3,h4,h5,h6,h7,h8⟩:=h
 exact ⟨mv,dv,h1.kept hk h0,h2.lS hk fun hne b hb h=>(hs _ h).elim (h4 b hb).1 (fun e=>e (h7 hne b hb)),h3.lS hk fun hne b hb h=>(hs _ h).elim (h5 b hb).1 (fun e=>e (h8 hne b hb)),h4,h5,h6,h7,h8⟩
theorem cM.kept {R:Nat -> Prop} {w w':World} {sb db mb tb:Nat} {s:aZ} (h:cM R w sb db mb tb s) (hk:Kept w w' (bB db mb tb)):cM R w' sb db mb tb s:=h.nW hk (fun e=>let ⟨_,_,_,_,_,_,_,h6,_⟩:=h;h6 e) fun _ h=>.inl h
theorem cM.below {R:Nat -> Prop} {w w':World} {sb db mb tb:Nat} {s:aZ} (h:cM R w sb db mb tb s) (hb:Below w.heap.size w w'):cM R w' sb db mb tb s:=h.kept (Kept.bY hb)
theorem cM.lt {R:Nat -> Prop} {w:World} {sb db mb tb:Nat} {s:aZ} (h:cM R w sb db mb tb s):sb < w.heap.size:=let ⟨_,_,h1,_⟩:=h;h1.lt
theorem cM.sM {R T:Nat -> Prop} {w:World} {sb db mb tb:Nat} {s:aZ} (h:cM R w sb db mb tb s) (hT:∀ b,R b -> b < w.heap.size -> T b):cM T w sb db mb tb s:=by
 obtain ⟨mv,dv,h1,h2,h3,h4,h5,h6,h7,h8⟩:=h
 exact ⟨mv,dv,h1,h2,h3,h4,h5,h6,fun hne b hb=>hT b (h7 hne b hb) (h2.blk hne b hb),fun hne b hb=>hT b (h8 hne b hb) (h3.blk hne b hb)⟩
def rO (R:Nat -> Prop) (db mb tb:Nat) (D:aA) (w:World):Ending -> World -> Prop:=fun e w' =>
 (gW D ≠ 0 -> e = .returned (.tuple #[.pointer none,.int .i64 (gW D)])) /\
 (gW D = 0 -> ∃ sb,e = .returned (.tuple #[.pointer (some ⟨sb,0,none⟩),.int .i64 0]) /\ cM R w' sb db mb tb (dM D) /\ w.heap.size <= sb) /\
 aG w' db mb tb (bZ D).1 /\ Kept w w' (bB db mb tb)
def aAt (R:Nat -> Prop) (sb db mb tb:Nat) (X:aA × Nat) (s x:aZ) (w:World):Ending -> World -> Prop:=fun e w' =>
 e = .returned (.int .i64 X.2) /\ aG w' db mb tb X.1 /\ cM R w' sb db mb tb (if X.2 = 0 then x else s) /\ Kept w w' (fun k=>bB db mb tb k \/ k = sb)

set_option maxRecDepth 20000 in
theorem aEp (Q9:Nat -> Prop) (db mb tb:Nat) (D:aA) (w:World) (_hQ9:∀ b,w.heap.size <= b -> Q9 b) (hd:aG w db mb tb D) (hw:aW D) (hg:(bZ D).2 = 0) (hf:bG (bZ D).1 eU = 31) :
  Calls Tryz.prog 100 #[.pointer (some ⟨db,0,none⟩)] w fun e w'=>∃ sb,e = .returned (.tuple #[.pointer (some ⟨sb,0,none⟩),.int .i64 0]) /\ aG w' db mb tb (bZ D).1 /\ cM Q9 w' sb db mb tb iO /\ Kept w w' (bB db mb tb) /\ w.heap.size <= sb:=by
 have HD:=hid hd
 have HW:=hid hw
 have HG:=hid hg
 have HF:=hid hf
 have H3:=hid hd.lt3
 clear hd hw hg hf
 go_enter Tryz.func100,Tryz.ntmps100
 go_wp2_with fail
 generalize hw1:World.alloc w _ = w1
 have B1:Hid (Below w.heap.size w w1):=hid (by subst hw1;exact (Below.refl _ _).alloc (Nat.le_refl _) _)
 have S1:Hid (cM Q9 w1 w.heap.size db mb tb iO):=hid (by
  subst hw1
  refine ⟨.slice none 0 0,.slice none 0 0,(show jH _ _ _ 0 0 _ _ from ⟨by go_cell,by go_cell,by go_cell,by go_cell,by go_cell,by simp,by simp,by simp,by simp,eG.alloc (by simp)⟩),Ints.nil _,Bytes.nil _,fun b hb=>(by cases hb),fun b hb=>(by cases hb),fun e=>?_,fun h=>absurd rfl h,fun h=>absurd rfl h⟩
  have:=H3.out _ e
  omega)
 clear hw1
 refine (vH w.heap.size db mb tb D w1 (by obtain ⟨_,_,h,_⟩:=S1.out;exact h.c0) (HD.out.below B1.out) HW.out).mono ?_
 rintro e w2 ⟨rfl,hd2,hk2⟩
 have D2:=hid hd2
 have K2:Hid (Kept w w2 (bB db mb tb)):=hid ((Kept.bY B1.out).trans hk2)
 have S2:=hid (S1.out.kept hk2)
 clear hd2 hk2
 rw [HG.out]
 go_wp2_with fail
 refine (iZ db mb tb _ eU w2 D2.out (by decide) (by rw [HF.out];decide)).mono ?_
 rintro e w3 ⟨rfl,hb3⟩
 have B3:=hid hb3
 clear hb3
 rw [HF.out]
 go_wp2_with fail
 go_ret2
 exact ⟨_,rfl,D2.out.below B3.out,S2.out.below B3.out,K2.out.trans (Kept.bY B3.out),Nat.le_refl _⟩

set_option maxRecDepth 20000 in
theorem aC8 (Q9:Nat -> Prop) (db mb tb:Nat) (D:aA) (f:aO) (w:World) (hQ9:∀ b,w.heap.size <= b -> Q9 b) (hd:aG w db mb tb D) (hw:aW D) (hg:(bZ D).2 = 0) (hf:aC eU (bZ D).1.files = some f) (hr9:rH 7 f.all = true) :
  Calls Tryz.prog 100 #[.pointer (some ⟨db,0,none⟩)] w (rO Q9 db mb tb D w):=by
 have HD:=hid hd
 have HW:=hid hw
 have HG:=hid hg
 have HF:=hid hf
 have HUP:=hid (aE9 hg)
 have H3:=hid hd.lt3
 have HE:Hid (gW D = if rH 7 f.all = true then 0 else 20):=hid (by unfold gW;rw [if_neg (not_not_intro hg),if_neg (by rw [hf];simp),dC hf])
 have HSS:Hid (dM D = pX 7 f.all):=hid (by unfold dM;rw [if_neg (by rw [hf];simp),dC hf])
 clear hd hw hg hf
 go_enter Tryz.func100,Tryz.ntmps100
 go_wp2_with fail
 generalize hw1:World.alloc w _ = w1
 have B1:Hid (Below w.heap.size w w1):=hid (by subst hw1;exact (Below.refl _ _).alloc (Nat.le_refl _) _)
 have S1:Hid (jH w1 w.heap.size db 0 0 (.slice none 0 0) (.slice none 0 0)):=hid (by
  subst hw1
  exact ⟨by go_cell,by go_cell,by go_cell,by go_cell,by go_cell,by simp,by simp,by simp,by simp,eG.alloc (by simp)⟩)
 clear hw1
 have N1:Hid (¬ bB db mb tb w.heap.size):=hid fun e=>by have:=H3.out _ e;omega
 refine (vH w.heap.size db mb tb D w1 S1.out.c0 (HD.out.below B1.out) HW.out).mono ?_
 rintro e w2 ⟨rfl,hd2,hk2⟩
 have D2:=hid hd2
 have K2:Hid (Kept w w2 (bB db mb tb)):=hid ((Kept.bY B1.out).trans hk2)
 have S2:=hid (S1.out.kept hk2 N1.out)
 clear hd2 hk2
 rw [HG.out]
 generalize hDD:(bZ D).1 = D' at *
 have HDD:=hid hDD
 clear hDD
 go_wp2_with fail
 refine (kI db mb tb D' eU f w2 D2.out HUP.out (by decide) HF.out).mono ?_
 rintro e w3 ⟨v3,rfl,hB3,hb3⟩
 obtain ⟨a3,c3,rfl,_⟩:=hB3.shape
 have HB3:=hid hB3
 have D3:=hid (D2.out.below hb3)
 have K3:Hid (Kept w w3 (bB db mb tb)):=hid (K2.out.trans (Kept.bY hb3))
 have S3:Hid (jH w3 w.heap.size db 0 0 (.slice none 0 0) (.slice none 0 0)):=hid (S2.out.kept (Kept.aJ hb3 (S:=fun _=>False) fun k h1 h2=>by omega) fun h=>h)
 clear hB3 hb3
 generalize hfl:f.all.length = n at HB3 ⊢
 have HR:=hid hr9
 have HV:Hid (gW D = 0):=hid (by rw [HE.out,hr9];rfl)
 clear hr9
 go_wp2_with fail
 refine (aGz _ f.all w3 HB3.out HR.out).mono ?_
 rintro e w4 ⟨v4,rfl,hs4,hb4,hn4⟩
 obtain ⟨mv,dv,rfl,hm4,hd4⟩:=hs4
 obtain ⟨_,_,_,_,he4,hn1,hn2⟩:=hn4
 simp only [Value.agg.injEq,Array.mk.injEq,List.cons.injEq,and_true] at he4
 obtain ⟨rfl,rfl,rfl,rfl⟩:=he4
 generalize hs:pX 7 f.all = s at *
 obtain ⟨am,cm,rfl,_⟩:=hm4.shape
 obtain ⟨ad,cd,rfl,_⟩:=hd4.shape
 rw [HR.out]
 have HM4:=hid hm4
 have HD4:=hid hd4
 have HN1:=hid hn1
 have HN2:=hid hn2
 have D4:=hid (D3.out.below hb4)
 have K4:Hid (Kept w w4 (bB db mb tb)):=hid (K3.out.trans (Kept.bY hb4))
 have S4:Hid (jH w4 w.heap.size db 0 0 (.slice none 0 0) (.slice none 0 0)):=hid (S3.out.kept (Kept.aJ hb4 (S:=fun _=>False) fun k h1 h2=>by omega) fun h=>h)
 have L34:w3.heap.size <= w4.heap.size:=hb4.size
 have L3:=S3.out.lt
 have L4:=S4.out.lt
 clear hm4 hd4 hb4 hn1 hn2 hs
 obtain ⟨_,k1,k2,k3,k4,f1,f2,f3,f4⟩:=S4.out
 have SF:=hid ((S4.out.iE s.i s.t (.slice am s.ms.length cm) (.slice ad s.d.length cd)).kept (Kept.alloc _ (.cells #[.int .u64 s.i,.int .u64 s.t,.slice am s.ms.length cm,.slice ad s.d.length cd] 75) (fun _=>False)) (fun h=>h))
 have KX:Kept w4 ((((((w4.setCell ⟨w.heap.size,1,none⟩ (.int .u64 s.i)).setCell ⟨w.heap.size,2,none⟩ (.int .u64 s.t)).setCell ⟨w.heap.size,3,none⟩ (.slice am s.ms.length cm)).setCell ⟨w.heap.size,4,none⟩ (.slice ad s.d.length cd)).alloc (.cells #[.int .u64 s.i,.int .u64 s.t,.slice am s.ms.length cm,.slice ad s.d.length cd] 75))) (fun k=>k = w.heap.size):=(Kept.aIo w4 w.heap.size _ _ _ _).trans (Kept.alloc _ _ _)
 have DF:=hid ((D4.out.aIo S4.out N1.out (fun _ h=>by cases h) (fun _ h=>by cases h) (.int .u64 s.i) (.int .u64 s.t) (.slice am s.ms.length cm) (.slice ad s.d.length cd)).below ((Below.refl _ _).alloc (Nat.le_refl _) (.cells #[.int .u64 s.i,.int .u64 s.t,.slice am s.ms.length cm,.slice ad s.d.length cd] 75)))
 have HMF:=hid (HM4.out.kept KX fun g hg h=>by have:=HN1.out g hg;omega)
 have HBF:=hid (HD4.out.kept KX fun g hg h=>by have:=HN2.out g hg;omega)
 have KF:Hid (Kept w ((((((w4.setCell ⟨w.heap.size,1,none⟩ (.int .u64 s.i)).setCell ⟨w.heap.size,2,none⟩ (.int .u64 s.t)).setCell ⟨w.heap.size,3,none⟩ (.slice am s.ms.length cm)).setCell ⟨w.heap.size,4,none⟩ (.slice ad s.d.length cd)).alloc (.cells #[.int .u64 s.i,.int .u64 s.t,.slice am s.ms.length cm,.slice ad s.d.length cd] 75))) (bB db mb tb)):=hid (K4.out.andThen KX fun k h1 h2=>h2.elim id fun e=>by omega)
 have NR:Hid (∀ g,w3.heap.size <= g -> ¬ bB db mb tb g /\ (g ≠ w.heap.size /\ Q9 g)):=hid fun g hg=>⟨fun e=>by have:=D3.out.lt3 _ e;omega,by omega,hQ9 g (Nat.le_trans K3.out.size hg)⟩
 clear KX
 go_wp2_with fail
 generalize World.alloc _ _ = wF at *
 clear k1 k2 k3 k4 f1 f2 f3 f4
 go_ret2
 unfold rO
 rw [HV.out,HDD.out,HSS.out]
 exact ⟨fun h=>absurd rfl h,fun _=>⟨_,rfl,cM.mk' SF.out HMF.out HBF.out (fun g hg=>NR.out g (HN1.out g hg)) (fun g hg=>NR.out g (HN2.out g hg)) N1.out,Nat.le_refl _⟩,DF.out,KF.out⟩
theorem aGK (Q9:Nat -> Prop) (db mb tb:Nat) (D:aA) (w:World) (hQ9:∀ b,w.heap.size <= b -> Q9 b) (hd:aG w db mb tb D) (hw:aW D) (h0:gW D = 0):Calls Tryz.prog 100 #[.pointer (some ⟨db,0,none⟩)] w (rO Q9 db mb tb D w):=by
 have hg:(bZ D).2 = 0:=by
  by_cases hg:(bZ D).2 = 0
  ·exact hg
  ·unfold gW at h0
   rw [if_pos hg] at h0
   exact h0
 cases hf:aC eU (bZ D).1.files with
 | none =>
  have he:bG (bZ D).1 eU = 31:=by unfold bG;rw [if_neg (by rw [aE9 hg];decide),if_pos hf]
  have hS:dM D = iO:=by unfold dM;rw [if_pos hf]
  refine (aEp Q9 db mb tb D w hQ9 hd hw hg he).mono ?_
  rintro e w' ⟨sb,rfl,h1,h2,h3,h4⟩
  exact ⟨fun h=>absurd h0 h,fun _=>⟨sb,rfl,by rw [hS];exact h2,h4⟩,h1,h3⟩
 | some f =>
  refine aC8 Q9 db mb tb D f w hQ9 hd hw hg hf ?_
  unfold gW at h0
  rw [if_neg (not_not_intro hg),if_neg (by rw [hf];simp),dC hf] at h0
  cases hr:rH 7 f.all with
  | true=>rfl
  | false=>rw [if_neg (by rw [hr];decide)] at h0;cases h0
set_option maxRecDepth 20000 in
theorem aGN (Q9:Nat -> Prop) (sb db mb tb:Nat) (s x:aZ) (D D1 D2 D3 D4:aA) (n1 n2 n3 n4:Nat) (X9:aA × Nat) (v:Value) (w:World) (hQ9:∀ b,w.heap.size <= b -> Q9 b) (h:cM Q9 w sb db mb tb s) (hx:cG w v x) (hxk:∀ w',Kept w w' (bB db mb tb) -> cG w' v x) (hok:x.ok) (hgt:s.i < x.i) (hd0:aG w db mb tb D)
  (g0:aW D) (g1:aW D1) (g2:aW D2) (g3:aW D3) (e1:bZ D = (D1,n1)) (e2:aY D1 bN (frP 4 (eC x)) = (D2,n2)) (e3:syncD D2 bN = (D3,n3)) (e4:gK D3 bN eU = (D4,n4)) (hv:X9 = if n1 ≠ 0 then (D1,n1) else if n2 ≠ 0 then (D2,n2) else if n3 ≠ 0 then (D3,n3) else (D4,n4)) :
  Calls Tryz.prog 136 #[.pointer (some ⟨sb,0,none⟩),v] w (aAt Q9 sb db mb tb X9 s x w):=by
 have H:=hid h
 have HX:=hid hx
 have HXK:=hid hxk
 have HOK:=hid hok
 have D0:=hid hd0
 have G0:=hid g0
 have G1:=hid g1
 have G2:=hid g2
 have G3:=hid g3
 have E1:=hid e1
 have E2:=hid e2
 have E3:=hid e3
 have E4:=hid e4
 have HV:=hid hv
 have hgt':¬ x.i <= s.i:=by omega
 obtain ⟨mv,dv,rfl,hm,hd⟩:=hx
 obtain ⟨a,c,rfl,_⟩:=hd.shape
 obtain ⟨am,cm,rfl,_⟩:=hm.shape
 have hsl:=h.lt
 clear h hm hd hok hd0 g0 g1 g2 g3 e1 e2 e3 e4 hxk hv
 go_enter Tryz.func136,Tryz.ntmps136
 go_wp2_with fail
 generalize hw2:World.alloc (World.alloc w _) _ = w2
 have B2:Hid (Below w.heap.size w w2):=hid (by subst hw2;exact ((Below.refl _ _).alloc (Nat.le_refl _) _).alloc (by simp) _)
 have c2:w2.cell? ⟨w.heap.size,0,none⟩ = some (.pointer (some ⟨sb,0,none⟩)):=by subst hw2;go_cell
 have S2:Hid (bX w2 (w.heap.size + 1) x.i x.t (.slice am x.ms.length cm) (.slice a x.d.length c)):=hid (by
  subst hw2
  have k:=bX.box (w.alloc (.cells #[.pointer (some ⟨sb,0,none⟩)] 107)) x.i x.t (.slice am x.ms.length cm) (.slice a x.d.length c)
  simpa using k)
 have l2:w.heap.size + 1 < w2.heap.size:=S2.out.lt
 clear hw2
 refine (aC7 sb db mb tb s w2 (H.out.below B2.out).is).mono ?_
 rintro e w2' ⟨rfl,rfl⟩
 obtain ⟨r0,r1,r2,r3,_,_,_,_⟩:=S2.out
 go_wp2_with fail
 refine (zF _ x w2 (HX.out.below B2.out) HOK.out).mono ?_
 rintro e w3 ⟨bv,rfl,hB3,hb3,ho3⟩
 obtain ⟨ab,cb,rfl,_⟩:=hB3.shape
 have HO3:=hid ho3
 have HB3:=hid hB3
 have B3:=hid hb3
 have c3:=Below.at hb3 c2 (by show w.heap.size < w2.heap.size;omega)
 have r3':=Below.at hb3 r0 l2
 have l3:=hb3.size
 have H3:Hid (cM Q9 w3 sb db mb tb s):=hid ((H.out.below B2.out).below hb3)
 clear hB3 hb3 ho3 r0 r1 r2 r3 c2
 generalize hnb:(frP 4 (eC x)).length = nb at HB3 HO3
 go_wp2_with fail
 have S3:=H3.out
 obtain ⟨mv3,dv3,hS3,_⟩:=S3
 have y0:=iR c3 (.cells #[.slice ab nb cb] 36)
 have y1:=iR r3' (.cells #[.slice ab nb cb] 36)
 have y2:=iR hS3.c1 (.cells #[.slice ab nb cb] 36)
 have B4:Hid (Below w.heap.size w (w3.alloc (.cells #[.slice ab nb cb] 36))):=hid ((B2.out.trans (B3.out.mono B2.out.size)).alloc (by have:=B2.out.size;omega) _)
 have Y3:Hid ((w3.alloc (.cells #[.slice ab nb cb] 36)).cell? ⟨w3.heap.size,0,none⟩ = some (.slice ab nb cb)):=hid (by go_cell)
 have X4:Hid (bX (w3.alloc (.cells #[.slice ab nb cb] 36)) (w.heap.size + 1) x.i x.t (.slice am x.ms.length cm) (.slice a x.d.length c)):=hid ((S2.out.kept (Kept.aJ B3.out (S:=fun _=>False) fun k h1 h2=>by omega) (fun h=>h)).kept (Kept.alloc _ _ (fun _=>False)) (fun h=>h))
 clear hS3 c3 r3'
 have hbc:w3.heap.size < (w3.alloc (.cells #[.slice ab nb cb] 36)).heap.size:=by simp
 have HB4:Hid (Bytes (w3.alloc (.cells #[.slice ab nb cb] 36)) (.slice ab nb cb) (frP 4 (eC x))):=hid (HB3.out.alloc _)
 generalize w3.heap.size = bc at *
 generalize World.alloc w3 _ = w4 at *
 go_quiet (fail)
 have IQ:Hid (Below w.heap.size w (w4.drewN nq)):=hid (pG B4.out nq)
 have YQ:Hid ((w4.drewN nq).cell? ⟨w.heap.size,0,none⟩ = some (.pointer (some ⟨sb,0,none⟩)) /\ (w4.drewN nq).cell? ⟨bc,0,none⟩ = some (.slice ab nb cb) /\ bX (w4.drewN nq) (w.heap.size + 1) x.i x.t (.slice am x.ms.length cm) (.slice a x.d.length c) /\ Bytes (w4.drewN nq) (.slice ab nb cb) (frP 4 (eC x)) /\ bc < (w4.drewN nq).heap.size):=by
  have k:=pG (Below.refl w4.heap.size w4) nq
  exact hid ⟨Below.at k y0 (World.block_lt_of_cell? _ _ y0),Below.at k Y3.out hbc,X4.out.below k,HB4.out.below k,Nat.lt_of_lt_of_le hbc k.size⟩
 clear y0 y1 y2 hbc
 generalize w4.drewN nq = wq at IQ YQ ⊢
 have z0:=YQ.out.1
 have hmf:∀ (fn:Fn) (first cap:Array Value) (w:World),(Instr.makeFunc fn first cap).run Tryz.prog w = .ok (.func fn first cap) w:=fun _ _ _ _=>rfl
 go_wp2_with fail
 have l3':w2.heap.size <= bc:=l3
 have hW0s:wq.heap.size <= (World.alloc wq (.cells #[.func (Fn.func 146) #[.pointer (some ⟨sb,0,none⟩)] #[],.func (Fn.func 175) #[] #[.pointer (some ⟨w.heap.size,0,none⟩),.pointer (some ⟨bc,0,none⟩)],.func (Fn.func 176) #[] #[.pointer (some ⟨w.heap.size,0,none⟩)],.func (Fn.func 177) #[] #[.pointer (some ⟨w.heap.size,0,none⟩)]] 266)).heap.size:=by simp
 clear hW0s
 generalize hW0:World.alloc wq _ = W0
 have BW0:Below wq.heap.size wq W0:=by subst hW0;exact (Below.refl _ _).alloc (Nat.le_refl _) _
 clear hW0
 have T0:Hid (W0.cell? ⟨w.heap.size,0,none⟩ = some (.pointer (some ⟨sb,0,none⟩)) /\ W0.cell? ⟨bc,0,none⟩ = some (.slice ab nb cb) /\ bX W0 (w.heap.size + 1) x.i x.t (.slice am x.ms.length cm) (.slice a x.d.length c) /\ Bytes W0 (.slice ab nb cb) (frP 4 (eC x))) :=
  hid ⟨Below.at BW0 YQ.out.1 (World.block_lt_of_cell? _ _ YQ.out.1),Below.at BW0 YQ.out.2.1 YQ.out.2.2.2.2,YQ.out.2.2.1.below BW0,YQ.out.2.2.2.1.below BW0⟩
 have IW:Hid (Below w.heap.size w W0):=hid (IQ.out.trans (BW0.mono IQ.out.size))
 have DW:=hid (D0.out.below IW.out)
 have HW:=hid (H.out.below IW.out)
 have N3:Hid (¬ bB db mb tb w.heap.size /\ ¬ bB db mb tb (w.heap.size + 1) /\ ¬ bB db mb tb bc /\ ∀ g,(Value.slice ab nb cb).ownBlock = some g -> ¬ bB db mb tb g):=hid ⟨fun e=>by have:=D0.out.lt3 _ e;omega,fun e=>by have:=D0.out.lt3 _ e;omega,fun e=>by have:=D0.out.lt3 _ e;omega,fun g hg e=>by have:=D0.out.lt3 _ e;have:=HO3.out g hg;omega⟩
 clear BW0 z0 YQ IQ B4 X4 Y3 HB4 S2 B2 B3 H3 HB3 HO3 l2 l3 l3' hnb
 go_loopw [38] (fun i wr=>∃ (j:Nat) (Dc:aA),i = .int .i64 j /\ ((j = 0 /\ Dc = D) \/ (j = 1 /\ Dc = D1 /\ n1 = 0) \/ (j = 2 /\ Dc = D2 /\ n1 = 0 /\ n2 = 0) \/ (j = 3 /\ Dc = D3 /\ n1 = 0 /\ n2 = 0 /\ n3 = 0) \/ (j = 4 /\ Dc = D4 /\ n1 = 0 /\ n2 = 0 /\ n3 = 0 /\ n4 = 0)) /\ aG wr db mb tb Dc /\ Kept W0 wr (bB db mb tb)) (fun i _=>4 - (intOf i).toNat)
 case atStart=>exact ⟨0,D,rfl,.inl ⟨rfl,rfl⟩,DW.out,Kept.refl _ _⟩
 case round =>
  obtain ⟨j,Dc,rfl,hc,hdr,hkr⟩:=hrel
  have DR:=hid hdr
  have KR:=hid hkr
  have HR:Hid (cM Q9 wr sb db mb tb s):=hid (HW.out.kept hkr)
  have TR:Hid (wr.cell? ⟨w.heap.size,0,none⟩ = some (.pointer (some ⟨sb,0,none⟩)) /\ wr.cell? ⟨bc,0,none⟩ = some (.slice ab nb cb) /\ bX wr (w.heap.size + 1) x.i x.t (.slice am x.ms.length cm) (.slice a x.d.length c) /\ Bytes wr (.slice ab nb cb) (frP 4 (eC x))) :=
   hid ⟨hkr.cell T0.out.1 N3.out.1,hkr.cell T0.out.2.1 N3.out.2.2.1,T0.out.2.2.1.kept hkr N3.out.2.1,T0.out.2.2.2.kept hkr N3.out.2.2.2⟩
  have HC:Hid (wr.cell? ⟨sb,0,none⟩ = some (.pointer (some ⟨db,0,none⟩))):=hid (by obtain ⟨_,_,h,_⟩:=HR.out;exact h.c0)
  clear hdr hkr
  rcases hc with ⟨rfl,rfl⟩ | ⟨rfl,rfl,rfl⟩ | ⟨rfl,rfl,rfl,rfl⟩ | ⟨rfl,rfl,rfl,rfl,rfl⟩ | ⟨rfl,rfl,rfl,rfl,rfl,rfl⟩
  ·rw [show ((0:Nat):Int) = 0 from rfl]
   have hix:=fun w0=>aBs (.func (Fn.func 146) #[.pointer (some ⟨sb,0,none⟩)] #[]) (.func (Fn.func 175) #[] #[.pointer (some ⟨w.heap.size,0,none⟩),.pointer (some ⟨bc,0,none⟩)]) (.func (Fn.func 176) #[] #[.pointer (some ⟨w.heap.size,0,none⟩)]) (.func (Fn.func 177) #[] #[.pointer (some ⟨w.heap.size,0,none⟩)]) _ 0 w0 rfl
   rw [show ((0:Nat):Int) = 0 from rfl] at hix
   go_wp2_with fail
   refine (vH sb db mb tb _ wr HC.out DR.out G0.out).mono ?_
   rintro e w5 ⟨rfl,hd5,hk5⟩
   rw [E1.out] at hd5 ⊢
   have D5:=hid hd5
   have K5:=hid (KR.out.trans hk5)
   clear hd5 hk5 hix
   by_cases hn:n1 = 0
   ·subst hn
    rw [show ((0:Nat):Int) = 0 from rfl]
    go_wp2_with fail
    go_roundw
    case rel=>exact ⟨1,D1,by first | rfl | go_num,by simp,D5.out,K5.out⟩
    all_goals (show 4 - ((1:Int)).toNat < 4 - ((0:Int)).toNat;decide)
   ·have hkb:((n1:Int) != 0) = true:=by simp;omega
    go_wp2_with fail
    go_ret
    have hR:X9 = (D1,n1):=by rw [HV.out];simp [hn]
    rw [hR]
    refine ⟨rfl,D5.out,?_,?_⟩
    ·rw [if_neg hn]
     exact HW.out.kept K5.out
    ·exact ((Kept.bY IW.out).trans K5.out).mono fun k _ h=>.inl h
  ·rw [show ((1:Nat):Int) = 1 from rfl]
   have hix:=fun w0=>aBs (.func (Fn.func 146) #[.pointer (some ⟨sb,0,none⟩)] #[]) (.func (Fn.func 175) #[] #[.pointer (some ⟨w.heap.size,0,none⟩),.pointer (some ⟨bc,0,none⟩)]) (.func (Fn.func 176) #[] #[.pointer (some ⟨w.heap.size,0,none⟩)]) (.func (Fn.func 177) #[] #[.pointer (some ⟨w.heap.size,0,none⟩)]) _ 1 w0 rfl
   rw [show ((1:Nat):Int) = 1 from rfl] at hix
   go_wp2_with fail
   refine (aGB w.heap.size bc sb db mb tb _ ab nb cb _ wr TR.out.1 TR.out.2.1 HC.out DR.out G1.out TR.out.2.2.2).mono ?_
   rintro e w5 ⟨rfl,hd5,hk5⟩
   rw [E2.out] at hd5 ⊢
   have D5:=hid hd5
   have K5:=hid (KR.out.trans hk5)
   clear hd5 hk5 hix
   by_cases hn:n2 = 0
   ·subst hn
    rw [show ((0:Nat):Int) = 0 from rfl]
    go_wp2_with fail
    go_roundw
    case rel=>exact ⟨2,D2,by first | rfl | go_num,by simp,D5.out,K5.out⟩
    all_goals (show 4 - ((2:Int)).toNat < 4 - ((1:Int)).toNat;decide)
   ·have hkb:((n2:Int) != 0) = true:=by simp;omega
    go_wp2_with fail
    go_ret
    have hR:X9 = (D2,n2):=by rw [HV.out];simp [hn]
    rw [hR]
    refine ⟨rfl,D5.out,?_,?_⟩
    ·rw [if_neg hn]
     exact HW.out.kept K5.out
    ·exact ((Kept.bY IW.out).trans K5.out).mono fun k _ h=>.inl h
  ·rw [show ((2:Nat):Int) = 2 from rfl]
   have hix:=fun w0=>aBs (.func (Fn.func 146) #[.pointer (some ⟨sb,0,none⟩)] #[]) (.func (Fn.func 175) #[] #[.pointer (some ⟨w.heap.size,0,none⟩),.pointer (some ⟨bc,0,none⟩)]) (.func (Fn.func 176) #[] #[.pointer (some ⟨w.heap.size,0,none⟩)]) (.func (Fn.func 177) #[] #[.pointer (some ⟨w.heap.size,0,none⟩)]) _ 2 w0 rfl
   rw [show ((2:Nat):Int) = 2 from rfl] at hix
   go_wp2_with fail
   refine (aGC w.heap.size sb db mb tb _ wr TR.out.1 HC.out DR.out G2.out).mono ?_
   rintro e w5 ⟨rfl,hd5,hk5⟩
   rw [E3.out] at hd5 ⊢
   have D5:=hid hd5
   have K5:=hid (KR.out.trans hk5)
   clear hd5 hk5 hix
   by_cases hn:n3 = 0
   ·subst hn
    rw [show ((0:Nat):Int) = 0 from rfl]
    go_wp2_with fail
    go_roundw
    case rel=>exact ⟨3,D3,by first | rfl | go_num,by simp,D5.out,K5.out⟩
    all_goals (show 4 - ((3:Int)).toNat < 4 - ((2:Int)).toNat;decide)
   ·have hkb:((n3:Int) != 0) = true:=by simp;omega
    go_wp2_with fail
    go_ret
    have hR:X9 = (D3,n3):=by rw [HV.out];simp [hn]
    rw [hR]
    refine ⟨rfl,D5.out,?_,?_⟩
    ·rw [if_neg hn]
     exact HW.out.kept K5.out
    ·exact ((Kept.bY IW.out).trans K5.out).mono fun k _ h=>.inl h
  ·rw [show ((3:Nat):Int) = 3 from rfl]
   have hix:=fun w0=>aBs (.func (Fn.func 146) #[.pointer (some ⟨sb,0,none⟩)] #[]) (.func (Fn.func 175) #[] #[.pointer (some ⟨w.heap.size,0,none⟩),.pointer (some ⟨bc,0,none⟩)]) (.func (Fn.func 176) #[] #[.pointer (some ⟨w.heap.size,0,none⟩)]) (.func (Fn.func 177) #[] #[.pointer (some ⟨w.heap.size,0,none⟩)]) _ 3 w0 rfl
   rw [show ((3:Nat):Int) = 3 from rfl] at hix
   go_wp2_with fail
   refine (aGD w.heap.size sb db mb tb _ wr TR.out.1 HC.out DR.out G3.out).mono ?_
   rintro e w5 ⟨rfl,hd5,hk5⟩
   rw [E4.out] at hd5 ⊢
   have D5:=hid hd5
   have K5:=hid (KR.out.trans hk5)
   clear hd5 hk5 hix
   by_cases hn:n4 = 0
   ·subst hn
    rw [show ((0:Nat):Int) = 0 from rfl]
    go_wp2_with fail
    go_roundw
    case rel=>exact ⟨4,D4,by first | rfl | go_num,by simp,D5.out,K5.out⟩
    all_goals (show 4 - ((4:Int)).toNat < 4 - ((3:Int)).toNat;decide)
   ·have hkb:((n4:Int) != 0) = true:=by simp;omega
    go_wp2_with fail
    go_ret
    have hR:X9 = (D4,n4):=by rw [HV.out];simp
    rw [hR]
    refine ⟨rfl,D5.out,?_,?_⟩
    ·rw [if_neg hn]
     exact HW.out.kept K5.out
    ·exact ((Kept.bY IW.out).trans K5.out).mono fun k _ h=>.inl h
  ·rw [show ((4:Nat):Int) = 4 from rfl]
   go_wp2_with fail
   obtain ⟨mvs,dvs,hS5,hms,hds,_,_,hno,_⟩:=HR.out
   have HS5:=hid hS5
   have HNO:=hid hno
   have HMV:Hid (∀ x,mvs ≠ .int .u8 x):=hid (by obtain ⟨_,_,e,_⟩:=hms.shape;rw [e];exact fun x h=>by cases h)
   have HDV:Hid (∀ x,dvs ≠ .int .u8 x):=hid (by obtain ⟨_,_,e,_⟩:=hds.shape;rw [e];exact fun x h=>by cases h)
   have hlw:w.heap.size < wr.heap.size:=World.block_lt_of_cell? _ _ TR.out.1
   have ST:=aP.from wr
   have KW:Hid (Kept w wr (bB db mb tb)):=hid ((Kept.bY IW.out).trans KR.out)
   clear hS5 hno hms hds
   refine aN [0,0,2,7,15,31] 4 (fun w'=>Below wr.heap.size wr w') (by kernel_rfl) ?_
   refine aB [0,1] (by kernel_rfl) (L:=bm 6 3) (by kernel_rfl) (f':=4) rfl (fun _ _ _ _ h=>h) (fun w o h=>ST.alloc h o) (.inr (by first | exact Below.refl _ _ | exact (Below.refl _ _).drew)) ?_
   simp only [sF,sL]
   iterate 2 (first | (refine aQ _ (by rfl) (fun w' hs=>by have y0:=Below.at hs TR.out.1 hlw;obtain ⟨r0,r1,r2,r3,_,_,_,_⟩:=TR.out.2.2.1.below hs;go_simp;try with_reducible rfl) rfl ?_;simp only [Act.put,sA]) | (refine aD _ (by rfl) (fun w'=>by go_simp;try with_reducible rfl) ?_;simp only [Act.put,sA]))
   refine aE ?_
   refine aI 2 (by kernel_rfl) (L:=bm 6 7) (by kernel_rfl) ?_
   simp only [sL]
   go_wp2_with fail;refine (aAY _ x _ ((HXK.out wr KW.out).below (by first | exact Below.refl _ _ | exact (Below.refl _ _).drew))).mono ?_;rintro e w6 ⟨v6,rfl,⟨mv6,dv6,rfl,om,od⟩,hb6⟩;obtain ⟨am6,cm6,rfl⟩:=om.shape;obtain ⟨ad6,cd6,rfl⟩:=od.shape;have OM:Hid (cL w6 wr.heap.size 3 .i64 (.slice am6 x.ms.length cm6) x.ms):=hid om;have OD:Hid (cL w6 wr.heap.size 5 .u8 (.slice ad6 (ints x.d).length cd6) (ints x.d)):=hid od;have I6:Hid (Below wr.heap.size wr w6):=hid (by first | exact hb6 | exact ((Below.refl _ _).drew).trans hb6);clear om od hb6;go_wp2_with fail
   refine aF (fun _=>I6.out) ?_
   refine aB [3,4] (by kernel_rfl) (L:=bm 6 31) (by kernel_rfl) (f':=1) rfl (fun _ _ _ _ h=>h) (fun w o h=>ST.alloc h o) (.inl (by kernel_rfl)) ?_
   simp only [sF,sL]
   iterate 2 (refine aD _ (by rfl) (fun w'=>by go_simp;try with_reducible rfl) ?_;simp only [Act.put,sA])
   refine aE ?_
   refine aI 5 (by kernel_rfl) (L:=bm 6 63) (by kernel_rfl) ?_
   simp only [sL]
   obtain ⟨_,k1,k2,k3,k4,f1,f2,f3,f4⟩:=HS5.out.kept (Kept.aJ I6.out (S:=fun _=>False) fun k h1 h2=>by omega) (fun h=>h);go_wp2_with fail
   refine aF nofun ?_
   refine aT (by kernel_rfl) ?_
   generalize hwF:World.setCell _ _ _ = wF
   have S6:Hid (jH w6 sb db s.i s.t mvs dvs):=hid (HS5.out.kept (Kept.aJ I6.out (S:=fun _=>False) fun k h1 h2=>by omega) (fun h=>h))
   have KF:Hid (Kept w6 wF (fun k=>k = sb)):=hid (by subst hwF;exact Kept.aIo _ _ _ _ _ _)
   have SF:Hid (jH wF sb db x.i x.t (.slice am6 x.ms.length cm6) (.slice ad6 (ints x.d).length cd6)):=hid (by subst hwF;exact S6.out.iE _ _ _ _)
   have DF:Hid (aG wF db mb tb Dc):=hid (by subst hwF;exact (DR.out.below I6.out).aIo S6.out HNO.out HMV.out HDV.out _ _ _ _)
   have hsw:=HS5.out.lt
   have NW:Hid (∀ g,wr.heap.size <= g -> ¬ bB db mb tb g /\ (g ≠ sb /\ Q9 g)):=hid fun g hg=>⟨fun e=>by have:=DR.out.lt3 _ e;omega,by omega,hQ9 g (Nat.le_trans KW.out.size hg)⟩
   have HXD:Hid ((∀ c ∈ x.d,c < 256) /\ x.d.length <= 2097152 /\ x.ms.length <= 2097152):=hid (by obtain ⟨_,_,_,h1,h2⟩:=HX.out;exact ⟨h2.lt,h2.small,h1.small⟩)
   clear hwF k1 k2 k3 k4 f1 f2 f3 f4
   go_wp2_with fail
   go_ret
   have hR:X9 = (Dc,0):=by rw [HV.out];rfl
   rw [hR]
   refine ⟨rfl,DF.out,cM.mk' SF.out (Ints.eE (OM.out.kept KF.out fun g hg=>(NW.out g (OM.out.lt g hg).1).2.1) HXD.out.2.2) (Bytes.eE (OD.out.kept KF.out fun g hg=>(NW.out g (OD.out.lt g hg).1).2.1) HXD.out.1 HXD.out.2.1) (fun g hg=>NW.out g (OM.out.lt g hg).1) (fun g hg=>NW.out g (OD.out.lt g hg).1) HNO.out,?_⟩
   refine (KW.out.mono fun k _ h=>.inl h).trans (Kept.trans ?_ (KF.out.mono fun k _ h=>.inr h))
   exact Kept.aJ I6.out fun k h1 h2=>by omega

theorem zL (Q9:Nat -> Prop) (sb db mb tb:Nat) (s x:aZ) (D:aA) (v:Value) (w:World) (hQ9:∀ b,w.heap.size <= b -> Q9 b) (h:cM Q9 w sb db mb tb s) (hx:cG w v x) (hxk:∀ w',Kept w w' (bB db mb tb) -> cG w' v x) (hd:aG w db mb tb D) (g:aW D) (hs:D.steps + 4 <= 1000000000) :
  Calls Tryz.prog 136 #[.pointer (some ⟨sb,0,none⟩),v] w (aAt Q9 sb db mb tb (cO D s x) s x w):=by
 unfold cO
 by_cases hok:x.ok
 ·rw [if_neg (not_not_intro hok)]
  by_cases hle:x.i <= s.i
  ·rw [if_pos hle]
   exact (aGO sb db mb tb s x v w h.is hx hok hle).mono fun e w' ⟨he,hb⟩=>⟨he,hd.below hb,h.below hb,(Kept.bY hb).mono fun k _ h=>.inl h⟩
  ·rw [if_neg hle]
   have h1:=nV g (by omega)
   have h2:=h1.1.append bN (frP 4 (eC x)) (by omega)
   have h3:=h2.1.sync bN (by omega)
   exact aGN Q9 sb db mb tb s x D (bZ D).1 (aY (bZ D).1 bN (frP 4 (eC x))).1 (syncD (aY (bZ D).1 bN (frP 4 (eC x))).1 bN).1 (gK (syncD (aY (bZ D).1 bN (frP 4 (eC x))).1 bN).1 bN eU).1
    (bZ D).2 (aY (bZ D).1 bN (frP 4 (eC x))).2 (syncD (aY (bZ D).1 bN (frP 4 (eC x))).1 bN).2 (gK (syncD (aY (bZ D).1 bN (frP 4 (eC x))).1 bN).1 bN eU).2 _ v w hQ9 h hx hxk hok (by omega) hd g h1.1 h2.1 h3.1 rfl rfl rfl rfl rfl
 ·rw [if_pos hok]
  exact (aGM sb db mb tb s x v w h.is hx hok).mono fun e w' ⟨he,hb⟩=>⟨he,hd.below hb,h.below hb,(Kept.bY hb).mono fun k _ h=>.inl h⟩
end Go.Proofs.YtjdglpcnkiioeaaGreat
namespace Go.Proofs.YtjdglpcnkiioeaaGreat
open Go.RowKit Go.Maps Go.Proofs.Own

abbrev bE:=List (bR × Value)
def fZ (p:bR × Value):List Value:=[.int .u64 p.1.t,.int .i64 p.1.k,p.2]
def aL (l:bE):List (List Value):=l.map fZ
def bR.fits (e:bR):Prop:=0 <= e.t /\ e.t < 18446744073709551616 /\ -9223372036854775808 <= e.k /\ e.k <= 9223372036854775807
theorem bR.ok.fits {e:bR} (h:e.ok):e.fits:=by
 obtain ⟨h1,h2,h3,h4,_⟩:=h
 exact ⟨by omega,by omega,by omega,by omega⟩
def bM (w:World) (S:Nat -> Prop) (l:bE):Prop:=∀ p ∈ l,Bytes w p.2 p.1.d /\ p.1.fits /\ ∀ b,p.2.ownBlock = some b -> ¬ S b
theorem bM.kept {w w':World} {S T:Nat -> Prop} {l:bE} (h:bM w S l) (hk:Kept w w' T) (hs:∀ k,T k -> S k):bM w' S l:=fun p hp =>
 let ⟨h1,h2,h3⟩:=h p hp
 ⟨h1.kept hk fun b hb ht=>h3 b hb (hs b ht),h2,h3⟩
theorem bM.mono {w:World} {S T:Nat -> Prop} {l:bE} (h:bM w S l) (hs:∀ p ∈ l,∀ b,p.2.ownBlock = some b -> T b -> S b):bM w T l:=fun p hp =>
 let ⟨h1,h2,h3⟩:=h p hp
 ⟨h1,h2,fun b hb ht=>h3 b hb (hs p hp b hb ht)⟩
theorem bM.app {w:World} {S:Nat -> Prop} {l m:bE} (h:bM w S l) (g:bM w S m):bM w S (l ++ m):=fun p hp=>(List.mem_append.1 hp).elim (h p) (g p)
theorem bM.sub {w:World} {S:Nat -> Prop} {l m:bE} (h:bM w S l) (hs:∀ p ∈ m,p ∈ l):bM w S m:=fun p hp=>h p (hs p hp)
def mN (w:World) (v:Value) (l:bE):Prop:=cS w 3 v (aL l) /\ bM w (fun _=>False) l
theorem aK (l:bE):(aL l).length = l.length:=List.length_map ..
theorem iB (l:bE):∀ r ∈ aL l,r.length = 3:=fun r hr=>by
 obtain ⟨p,_,rfl⟩:=List.mem_map.1 hr
 rfl
theorem Bytes.mJ {w:World} {v:Value} {l:List Nat} (h:Bytes w v l):v.oneCell' = true:=by
 obtain ⟨a,c,rfl,_⟩:=h.shape
 rfl
theorem bM.mJ {w:World} {S:Nat -> Prop} {l:bE} (h:bM w S l):∀ r ∈ aL l,∀ u ∈ r,u.oneCell' = true:=fun r hr u hu=>by
 obtain ⟨p,hp,rfl⟩:=List.mem_map.1 hr
 simp only [fZ,List.mem_cons,List.not_mem_nil,or_false] at hu
 rcases hu with rfl | rfl | rfl
 ·rfl
 ·rfl
 ·exact (h p hp).1.mJ
theorem gP (l m:bE):aL (l ++ m) = aL l ++ aL m:=List.map_append
theorem mN.below {w w':World} {v:Value} {l:bE} (h:mN w v l) (hb:Below w.heap.size w w'):mN w' v l :=
 ⟨h.1.below hb,fun p hp=>let ⟨h1,h2,h3⟩:=h.2 p hp;⟨h1.below hb,h2,h3⟩⟩
def NoB (w:World) (S:Nat -> Prop):Prop:=∀ k,S k -> ∀ j x,w.cell? ⟨k,j,none⟩ ≠ some (.int .u8 x)
theorem fL {w:World} {e:TypeId} {sz:Nat} {v:Value} {rs:List (List Value)} (h:cA w e sz v rs):NoB w (fun k=>v.ownBlock = some k):=by
 intro k hk j x hx
 obtain ⟨cur,fz,hg,h8⟩:=h.no8 hk
 have hc:cur[j]? = some (.int .u8 x):=by simpa [World.cell?,hg] using hx
 exact h8 x (Array.mem_toList_iff.2 (Array.mem_of_getElem? hc))
theorem Bytes.dT {w w':World} {v:Value} {l:List Nat} {S:Nat -> Prop} (h:Bytes w v l) (hk:Kept w w' S) (hn:NoB w S):Bytes w' v l:=by
 refine h.lS hk fun hne b hb hs=>?_
 obtain ⟨b',o,c,rfl,_,_,hc⟩:=h.fG (List.length_pos_iff.2 hne)
 obtain rfl:b' = b:=Option.some.inj hb
 exact hn b' hs _ _ (hc 0 (List.length_pos_iff.2 hne))
theorem aG.dT {w w':World} {db mb tb:Nat} {D:aA} {S:Nat -> Prop} (h:aG w db mb tb D) (hk:Kept w w' S) (hs:∀ k,bB db mb tb k -> ¬ S k) (hn:NoB w S):aG w' db mb tb D :=
 h.kept hk hs fun vals f _ hf=>by
  obtain ⟨a,c,e,hB,ho⟩:=hf
  exact ⟨a,c,e,hB.dT hk hn,ho⟩
theorem bM.dT {w w':World} {S T:Nat -> Prop} {l:bE} (h:bM w S l) (hk:Kept w w' T) (hn:NoB w T):bM w' S l:=fun p hp =>
 let ⟨h1,h2,h3⟩:=h p hp
 ⟨h1.dT hk hn,h2,h3⟩
def dD (f:WF):List Value:=[.int .u64 f.f,.int .i64 f.m,.int .i64 f.s]
theorem aES (l:List WF):∀ r ∈ l.map dD,r.length = 3:=fun r hr=>by
 obtain ⟨p,_,rfl⟩:=List.mem_map.1 hr
 rfl
def jR (lb db mb tb:Nat) (ev fv:Value):Nat -> Prop:=fun k=>k = lb \/ bB db mb tb k \/ ev.ownBlock = some k \/ fv.ownBlock = some k
structure bD (w:World) (lb db mb tb:Nat) (ev fv:Value) (el:bE) (D:aA) (L:aM):Prop where
 dN:aG w db mb tb D
 c0:w.cell? ⟨lb,0,none⟩ = some (.pointer (some ⟨db,0,none⟩))
 c1:w.cell? ⟨lb,1,none⟩ = some (.int .u64 L.b)
 c2:w.cell? ⟨lb,2,none⟩ = some ev
 c3:w.cell? ⟨lb,3,none⟩ = some fv
 c4:w.cell? ⟨lb,4,none⟩ = some (.int .i64 L.safe)
 fz:∀ j,1 <= j -> j <= 4 -> w.frozen? ⟨lb,j,none⟩ = false
 n8:NoB w (fun k=>k = lb)
 es:el.map (·.1) = L.es
 er:cA w 38 3 ev (aL el)
 fr:cA w 188 3 fv (L.fs.map dD)
 dat:bM w (bB db mb tb) el
 nl:¬ bB db mb tb lb
 ne:∀ b,ev.ownBlock = some b -> b ≠ lb /\ ¬ bB db mb tb b /\ fv.ownBlock ≠ some b
 nf:∀ b,fv.ownBlock = some b -> b ≠ lb /\ ¬ bB db mb tb b
theorem bD.lt {w:World} {lb db mb tb:Nat} {ev fv:Value} {el:bE} {D:aA} {L:aM} (h:bD w lb db mb tb ev fv el D L):lb < w.heap.size:=World.block_lt_of_cell? _ _ h.c0
theorem bD.xC {w:World} {lb db mb tb:Nat} {ev fv:Value} {el:bE} {D:aA} {L:aM} (h:bD w lb db mb tb ev fv el D L):el.length = L.es.length:=by rw [<- h.es,List.length_map]
theorem bD.fU {w:World} {lb db mb tb:Nat} {ev fv:Value} {el:bE} {D:aA} {L:aM} (h:bD w lb db mb tb ev fv el D L):∃ a c,ev = .slice a L.es.length c /\ L.es.length <= c:=by
 obtain ⟨a,c,e⟩:=h.er.shape
 rw [aK,h.xC] at e
 exact ⟨a,c,e⟩
theorem bD.oL {w:World} {lb db mb tb:Nat} {ev fv:Value} {el:bE} {D:aA} {L:aM} (h:bD w lb db mb tb ev fv el D L):∃ a c,fv = .slice a L.fs.length c /\ L.fs.length <= c:=by
 obtain ⟨a,c,e⟩:=h.fr.shape
 rw [List.length_map] at e
 exact ⟨a,c,e⟩
theorem bD.below {w w':World} {lb db mb tb:Nat} {ev fv:Value} {el:bE} {D:aA} {L:aM} (h:bD w lb db mb tb ev fv el D L) (hb:Below w.heap.size w w'):bD w' lb db mb tb ev fv el D L:=by
 have hl:=h.lt
 exact ⟨h.dN.below hb,Below.at hb h.c0 hl,Below.at hb h.c1 hl,Below.at hb h.c2 hl,Below.at hb h.c3 hl,Below.at hb h.c4 hl,fun j h1 h2=>by rw [hb.frozen (p:=⟨lb,j,none⟩) hl];exact h.fz j h1 h2,(fun k hk j x hx=>by subst hk;exact h.n8 k rfl j x (by rw [<- hb.cell (p:=⟨k,j,none⟩) hl];exact hx)),h.es,h.er.below hb,h.fr.below hb,
  fun p hp=>let ⟨h1,h2,h3⟩:=h.dat p hp;⟨h1.below hb,h2,h3⟩,h.nl,h.ne,h.nf⟩
theorem bD.jT {w w':World} {lb db mb tb:Nat} {ev fv:Value} {el:bE} {D D':aA} {L:aM} (h:bD w lb db mb tb ev fv el D L) (hd:aG w' db mb tb D') (hk:Kept w w' (bB db mb tb)):bD w' lb db mb tb ev fv el D' L:=by
 have hl:=h.lt
 exact ⟨hd,hk.cell h.c0 h.nl,hk.cell h.c1 h.nl,hk.cell h.c2 h.nl,hk.cell h.c3 h.nl,hk.cell h.c4 h.nl,fun j h1 h2=>(hk.frozen (a:=⟨lb,j,none⟩) hl h.nl).trans (h.fz j h1 h2),(fun k hk2 j x hx=>by subst hk2;exact h.n8 k rfl j x (by rw [<- World.cell?_of_block (a:=⟨k,j,none⟩) (hk.block k hl h.nl)];exact hx)),h.es,
  h.er.kept hk fun b hb=>(h.ne b hb).2.1,h.fr.kept hk fun b hb=>(h.nf b hb).2,h.dat.kept hk fun k hk=>hk,h.nl,h.ne,h.nf⟩
theorem bD.aBu {w:World} {lb db mb tb:Nat} {ev fv:Value} {el:bE} {D:aA} {L:aM} (h:bD w lb db mb tb ev fv el D L) {j:Nat} {u v:Value} (hc:w.cell? ⟨lb,j,none⟩ = some u) (hv:∀ x,v ≠ .int .u8 x) :
  aG (w.setCell ⟨lb,j,none⟩ v) db mb tb D /\ Kept w (w.setCell ⟨lb,j,none⟩ v) (fun k=>k = lb) /\ NoB (w.setCell ⟨lb,j,none⟩ v) (fun k=>k = lb) /\ (∀ i,1 <= i -> i <= 4 -> (w.setCell ⟨lb,j,none⟩ v).frozen? ⟨lb,i,none⟩ = false):=by
 have hk:Kept w (w.setCell ⟨lb,j,none⟩ v) (fun k=>k = lb):=Kept.setCell w ⟨lb,j,none⟩ v
 refine ⟨h.dN.dT hk (fun k h1 h2=>?_) h.n8,hk,fun k hk2 i x hx=>?_,fun i h1 h2=>by rw [World.frozen?_setCell];exact h.fz i h1 h2⟩
 ·subst h2
  exact h.nl h1
 ·subst hk2
  by_cases e:i = j
  ·subst e
   rw [World.cell?_setCell_same _ _ _ hc] at hx
   exact hv x (Option.some.inj hx)
  ·rw [World.cell?_setCell_other _ _ _ _ (by simp only [ne_eq,Addr.mk.injEq,true_and,and_true];omega)] at hx
   exact h.n8 k rfl i x hx
theorem bD.iE {w:World} {lb db mb tb:Nat} {ev fv:Value} {el:bE} {D:aA} {L:aM} (h:bD w lb db mb tb ev fv el D L) (n:Nat):bD (w.setCell ⟨lb,4,none⟩ (.int .i64 n)) lb db mb tb ev fv el D { L with safe:=n }:=by
 obtain ⟨h1,h2,h3,h4⟩:=h.aBu h.c4 (v:=.int .i64 n) (fun x e=>by cases e)
 exact ⟨h1,by rw [World.cell?_setCell_other _ _ _ _ (by simp)];exact h.c0,by rw [World.cell?_setCell_other _ _ _ _ (by simp)];exact h.c1,by rw [World.cell?_setCell_other _ _ _ _ (by simp)];exact h.c2,by rw [World.cell?_setCell_other _ _ _ _ (by simp)];exact h.c3,
  World.cell?_setCell_same _ _ _ h.c4,h4,h3,h.es,h.er.kept h2 fun b hb=>(h.ne b hb).1,h.fr.kept h2 fun b hb=>(h.nf b hb).1,h.dat.dT h2 h.n8,h.nl,h.ne,h.nf⟩
theorem bD.sD {w:World} {lb db mb tb:Nat} {ev fv:Value} {el:bE} {D:aA} {L:aM} (h:bD w lb db mb tb ev fv el D L) (n:Nat):bD (w.setCell ⟨lb,1,none⟩ (.int .u64 n)) lb db mb tb ev fv el D { L with b:=n }:=by
 obtain ⟨h1,h2,h3,h4⟩:=h.aBu h.c1 (v:=.int .u64 n) (fun x e=>by cases e)
 exact ⟨h1,by rw [World.cell?_setCell_other _ _ _ _ (by simp)];exact h.c0,World.cell?_setCell_same _ _ _ h.c1,by rw [World.cell?_setCell_other _ _ _ _ (by simp)];exact h.c2,by rw [World.cell?_setCell_other _ _ _ _ (by simp)];exact h.c3,
  by rw [World.cell?_setCell_other _ _ _ _ (by simp)];exact h.c4,h4,h3,h.es,h.er.kept h2 fun b hb=>(h.ne b hb).1,h.fr.kept h2 fun b hb=>(h.nf b hb).1,h.dat.dT h2 h.n8,h.nl,h.ne,h.nf⟩
theorem nI {w:World} {e:TypeId} {sz:Nat} {v:Value} {rs:List (List Value)} (h:cA w e sz v rs):∀ x,v ≠ .int .u8 x:=fun x hx=>by
 obtain ⟨a,c,e,_⟩:=h.shape
 rw [e] at hx
 cases hx
theorem bD.kV {w:World} {lb db mb tb:Nat} {ev fv ev':Value} {el el':bE} {D:aA} {L:aM} (h:bD w lb db mb tb ev fv el D L) (he:cA w 38 3 ev' (aL el')) (hd:bM w (bB db mb tb) el')
  (hne:∀ b,ev'.ownBlock = some b -> b ≠ lb /\ ¬ bB db mb tb b /\ fv.ownBlock ≠ some b):bD (w.setCell ⟨lb,2,none⟩ ev') lb db mb tb ev' fv el' D { L with es:=el'.map (·.1) }:=by
 obtain ⟨h1,h2,h3,h4⟩:=h.aBu h.c2 (v:=ev') (nI he)
 exact ⟨h1,by rw [World.cell?_setCell_other _ _ _ _ (by simp)];exact h.c0,by rw [World.cell?_setCell_other _ _ _ _ (by simp)];exact h.c1,World.cell?_setCell_same _ _ _ h.c2,by rw [World.cell?_setCell_other _ _ _ _ (by simp)];exact h.c3,
  by rw [World.cell?_setCell_other _ _ _ _ (by simp)];exact h.c4,h4,h3,rfl,he.kept h2 fun b hb=>(hne b hb).1,h.fr.kept h2 fun b hb=>(h.nf b hb).1,hd.dT h2 h.n8,h.nl,hne,h.nf⟩
theorem bD.mB {w:World} {lb db mb tb:Nat} {ev fv fv':Value} {el:bE} {D:aA} {L:aM} (h:bD w lb db mb tb ev fv el D L) {fs:List WF} (hf:cA w 188 3 fv' (fs.map dD))
  (hnf:∀ b,fv'.ownBlock = some b -> b ≠ lb /\ ¬ bB db mb tb b /\ ev.ownBlock ≠ some b):bD (w.setCell ⟨lb,3,none⟩ fv') lb db mb tb ev fv' el D { L with fs:=fs }:=by
 obtain ⟨h1,h2,h3,h4⟩:=h.aBu h.c3 (v:=fv') (nI hf)
 exact ⟨h1,by rw [World.cell?_setCell_other _ _ _ _ (by simp)];exact h.c0,by rw [World.cell?_setCell_other _ _ _ _ (by simp)];exact h.c1,by rw [World.cell?_setCell_other _ _ _ _ (by simp)];exact h.c2,World.cell?_setCell_same _ _ _ h.c3,
  by rw [World.cell?_setCell_other _ _ _ _ (by simp)];exact h.c4,h4,h3,h.es,h.er.kept h2 fun b hb=>(h.ne b hb).1,hf.kept h2 fun b hb=>(hnf b hb).1,h.dat.dT h2 h.n8,h.nl,
  fun b hb=>⟨(h.ne b hb).1,(h.ne b hb).2.1,fun e=>(hnf b e).2.2 hb⟩,fun b hb=>⟨(hnf b hb).1,(hnf b hb).2.1⟩⟩
def fH (lb db mb tb:Nat) (ev fv:Value) (r:aA × aM × Nat) (w:World):Ending -> World -> Prop:=fun E w' =>
 E = .returned (.int .i64 r.2.2) /\ ∃ ev' fv' el',bD w' lb db mb tb ev' fv' el' r.1 r.2.1 /\ Kept w w' (jR lb db mb tb ev fv) /\
  (∀ b,ev'.ownBlock = some b -> ev.ownBlock = some b \/ w.heap.size <= b) /\ (∀ b,fv'.ownBlock = some b -> fv.ownBlock = some b \/ w.heap.size <= b)

theorem bD.aBn {w w':World} {lb db mb tb:Nat} {ev fv ev':Value} {el el':bE} {D:aA} {L:aM} (h:bD w lb db mb tb ev fv el D L) (hg:w.grownBy w' ev.ownBlock)
  (he:cA w' 38 3 ev' (aL el')) (hb:ev'.ownBlock = ev.ownBlock \/ ev'.ownBlock = some w.heap.size) (hd:bM w' (bB db mb tb) el') :
  bD (w'.setCell ⟨lb,2,none⟩ ev') lb db mb tb ev' fv el' D { L with es:=el'.map (·.1) } /\ Kept w (w'.setCell ⟨lb,2,none⟩ ev') (jR lb db mb tb ev fv):=by
 have hk:Kept w w' (fun k=>ev.ownBlock = some k):=Kept.cK hg
 have hnl:¬ ev.ownBlock = some lb:=fun e=>(h.ne lb e).1 rfl
 have hno:∀ k,bB db mb tb k -> ¬ ev.ownBlock = some k:=fun k h1 h2=>(h.ne k h2).2.1 h1
 have hl:=h.lt
 have c0:=hk.cell h.c0 hnl
 have c1:=hk.cell h.c1 hnl
 have c2:=hk.cell h.c2 hnl
 have c3:=hk.cell h.c3 hnl
 have c4:=hk.cell h.c4 hnl
 have n8:NoB w' (fun k=>k = lb):=fun k hk2 j x hx=>by
  subst hk2
  exact h.n8 k rfl j x (by rw [<- World.cell?_of_block (a:=⟨k,j,none⟩) (hk.block k hl hnl)];exact hx)
 have hsk:Kept w' (w'.setCell ⟨lb,2,none⟩ ev') (fun k=>k = lb):=Kept.setCell w' ⟨lb,2,none⟩ ev'
 have hdk:aG w' db mb tb D:=h.dN.dT hk hno (fL h.er)
 have hne:∀ b,ev'.ownBlock = some b -> b ≠ lb /\ ¬ bB db mb tb b /\ fv.ownBlock ≠ some b:=by
  intro b hb2
  rcases hb with hb | hb
  ·rw [hb] at hb2
   exact h.ne b hb2
  ·rw [hb] at hb2
   obtain rfl:=Option.some.inj hb2
   refine ⟨fun e=>by omega,fun e=>?_,fun e=>?_⟩
   ·have:=h.dN.lt3 _ e
    omega
   ·have:=h.fr.lt _ e
    omega
 have hfr:cA w' 188 3 fv (L.fs.map dD):=h.fr.kept hk fun b hb2 e=>(h.ne b e).2.2 hb2
 refine ⟨⟨hdk.dT hsk (fun k h1 h2=>by subst h2;exact h.nl h1) n8,by rw [World.cell?_setCell_other _ _ _ _ (by simp)];exact c0,by rw [World.cell?_setCell_other _ _ _ _ (by simp)];exact c1,World.cell?_setCell_same _ _ _ c2,
  by rw [World.cell?_setCell_other _ _ _ _ (by simp)];exact c3,by rw [World.cell?_setCell_other _ _ _ _ (by simp)];exact c4,fun j h1 h2=>by rw [World.frozen?_setCell,hk.frozen (a:=⟨lb,j,none⟩) hl hnl];exact h.fz j h1 h2,?_,rfl,
  he.kept hsk fun b hb2=>(hne b hb2).1,hfr.kept hsk fun b hb2=>(h.nf b hb2).1,hd.dT hsk n8,h.nl,hne,h.nf⟩,?_⟩
 ·intro k hk2 j x hx
  subst hk2
  by_cases e:j = 2
  ·subst e
   rw [World.cell?_setCell_same _ _ _ c2] at hx
   exact nI he x (Option.some.inj hx)
  ·rw [World.cell?_setCell_other _ _ _ _ (by simp only [ne_eq,Addr.mk.injEq,true_and,and_true];omega)] at hx
   exact n8 k rfl j x hx
 ·exact hk.andThen hsk fun k _ h2=>h2.elim (fun e=>.inr (.inr (.inl e))) fun e=>.inl e
theorem bD.aDZ {w w':World} {lb db mb tb:Nat} {ev fv fv':Value} {el:bE} {D:aA} {L:aM} (h:bD w lb db mb tb ev fv el D L) (hg:w.grownBy w' fv.ownBlock) {fs:List WF}
  (hf:cA w' 188 3 fv' (fs.map dD)) (hb:fv'.ownBlock = fv.ownBlock \/ fv'.ownBlock = some w.heap.size) :
  bD (w'.setCell ⟨lb,3,none⟩ fv') lb db mb tb ev fv' el D { L with fs:=fs } /\ Kept w (w'.setCell ⟨lb,3,none⟩ fv') (jR lb db mb tb ev fv):=by
 have hk:Kept w w' (fun k=>fv.ownBlock = some k):=Kept.cK hg
 have hnl:¬ fv.ownBlock = some lb:=fun e=>(h.nf lb e).1 rfl
 have hno:∀ k,bB db mb tb k -> ¬ fv.ownBlock = some k:=fun k h1 h2=>(h.nf k h2).2 h1
 have hl:=h.lt
 have c0:=hk.cell h.c0 hnl
 have c1:=hk.cell h.c1 hnl
 have c2:=hk.cell h.c2 hnl
 have c3:=hk.cell h.c3 hnl
 have c4:=hk.cell h.c4 hnl
 have n8:NoB w' (fun k=>k = lb):=fun k hk2 j x hx=>by
  subst hk2
  exact h.n8 k rfl j x (by rw [<- World.cell?_of_block (a:=⟨k,j,none⟩) (hk.block k hl hnl)];exact hx)
 have hsk:Kept w' (w'.setCell ⟨lb,3,none⟩ fv') (fun k=>k = lb):=Kept.setCell w' ⟨lb,3,none⟩ fv'
 have hdk:aG w' db mb tb D:=h.dN.dT hk hno (fL h.fr)
 have hnf:∀ b,fv'.ownBlock = some b -> b ≠ lb /\ ¬ bB db mb tb b /\ ev.ownBlock ≠ some b:=by
  intro b hb2
  rcases hb with hb | hb
  ·rw [hb] at hb2
   exact ⟨(h.nf b hb2).1,(h.nf b hb2).2,fun e=>(h.ne b e).2.2 hb2⟩
  ·rw [hb] at hb2
   obtain rfl:=Option.some.inj hb2
   refine ⟨fun e=>by omega,fun e=>?_,fun e=>?_⟩
   ·have:=h.dN.lt3 _ e
    omega
   ·have:=h.er.lt _ e
    omega
 have her:cA w' 38 3 ev (aL el):=h.er.kept hk fun b hb2 e=>(h.ne b hb2).2.2 e
 refine ⟨⟨hdk.dT hsk (fun k h1 h2=>by subst h2;exact h.nl h1) n8,by rw [World.cell?_setCell_other _ _ _ _ (by simp)];exact c0,by rw [World.cell?_setCell_other _ _ _ _ (by simp)];exact c1,by rw [World.cell?_setCell_other _ _ _ _ (by simp)];exact c2,
  World.cell?_setCell_same _ _ _ c3,by rw [World.cell?_setCell_other _ _ _ _ (by simp)];exact c4,fun j h1 h2=>by rw [World.frozen?_setCell,hk.frozen (a:=⟨lb,j,none⟩) hl hnl];exact h.fz j h1 h2,?_,h.es,
  her.kept hsk fun b hb2=>(h.ne b hb2).1,hf.kept hsk fun b hb2=>(hnf b hb2).1,(h.dat.dT hk (fL h.fr)).dT hsk n8,h.nl,
  fun b hb2=>⟨(h.ne b hb2).1,(h.ne b hb2).2.1,fun e=>(hnf b e).2.2 hb2⟩,fun b hb2=>⟨(hnf b hb2).1,(hnf b hb2).2.1⟩⟩,?_⟩
 ·intro k hk2 j x hx
  subst hk2
  by_cases e:j = 3
  ·subst e
   rw [World.cell?_setCell_same _ _ _ c3] at hx
   exact nI hf x (Option.some.inj hx)
  ·rw [World.cell?_setCell_other _ _ _ _ (by simp only [ne_eq,Addr.mk.injEq,true_and,and_true];omega)] at hx
   exact n8 k rfl j x hx
 ·exact hk.andThen hsk fun k _ h2=>h2.elim (fun e=>.inr (.inr (.inr e))) fun e=>.inl e
theorem bD.aFn {w:World} {lb db mb tb g n c:Nat} {ev:Value} {el:bE} {D:aA} {L:aM} (h:bD w lb db mb tb ev (.slice (some ⟨g,0,none⟩) n c) el D L) {k i:Nat} (hk:k < L.fs.length) (hi:i < 3) {x:Int} {q:IntKind} (hq:q ≠ .u8) {fs:List WF}
  (hfs:fs.map dD = (L.fs.map dD).set k (((L.fs.map dD)[k]'(by rw [List.length_map];exact hk)).set i (.int q x))) :
  bD (w.setCell ⟨g,k * 3 + i,none⟩ (.int q x)) lb db mb tb ev (.slice (some ⟨g,0,none⟩) n c) el D { L with fs:=fs }:=by
 have hu:∀ y,(Value.int q x) ≠ .int .u8 y:=fun y e=>by
  cases e
  exact hq rfl
 have hs:=h.fr.stored (k:=k) (i:=i) (by rw [List.length_map];exact hk) hi hu
 rw [<- hfs] at hs
 have hk2:Kept w (w.setCell ⟨g,k * 3 + i,none⟩ (.int q x)) (fun b=>(Value.slice (some ⟨g,0,none⟩) n c).ownBlock = some b):=(Kept.setCell w ⟨g,k * 3 + i,none⟩ (.int q x)).mono fun b _ e=>by rw [e];rfl
 have hnl:¬ (Value.slice (some ⟨g,0,none⟩) n c).ownBlock = some lb:=fun e=>(h.nf lb e).1 rfl
 have hl:=h.lt
 exact ⟨h.dN.dT hk2 (fun b h1 h2=>(h.nf b h2).2 h1) (fL h.fr),hk2.cell h.c0 hnl,hk2.cell h.c1 hnl,hk2.cell h.c2 hnl,hk2.cell h.c3 hnl,hk2.cell h.c4 hnl,fun j h1 h2=>(hk2.frozen (a:=⟨lb,j,none⟩) hl hnl).trans (h.fz j h1 h2),
  (fun b hb j y hy=>by subst hb;exact h.n8 b rfl j y (by rw [<- World.cell?_of_block (a:=⟨b,j,none⟩) (hk2.block b hl hnl)];exact hy)),h.es,h.er.kept hk2 fun b hb e=>(h.ne b hb).2.2 e,hs,h.dat.dT hk2 (fL h.fr),h.nl,h.ne,h.nf⟩

theorem cA.lW {w:World} {e:TypeId} {sz g n c:Nat} {rs:List (List Value)} (h:cA w e sz (.slice (some ⟨g,0,none⟩) n c) rs) (j:Nat):w.frozen? ⟨g,j,none⟩ = false:=by
 rcases h.own with ⟨e1,_⟩ | ⟨g',cap,cur,e1,hg,_⟩
 ·cases e1
 ·cases e1
  simp [World.frozen?,hg]
theorem cA.some {w:World} {e:TypeId} {sz:Nat} {v:Value} {rs:List (List Value)} (h:cA w e sz v rs) (hne:rs ≠ []):∃ g c,v = .slice (some ⟨g,0,none⟩) rs.length c /\ rs.length <= c /\ g < w.heap.size:=by
 rcases h.own with ⟨_,e1⟩ | ⟨g,cap,cur,e1,hg,hn,_⟩
 ·exact absurd e1 hne
 ·exact ⟨g,cap,e1,hn,(Array.getElem?_eq_some_iff.1 hg).1⟩
theorem bD.aHl {w:World} {lb db mb tb g n c:Nat} {ev:Value} {el:bE} {D:aA} {L:aM} (h:bD w lb db mb tb ev (.slice (some ⟨g,0,none⟩) n c) el D L) {k:Nat} (hk:k < L.fs.length) :
  w.cell? ⟨g,k * 3,none⟩ = some (.int .u64 L.fs[k].f) /\ w.cell? ⟨g,k * 3 + 1,none⟩ = some (.int .i64 L.fs[k].m) /\ w.cell? ⟨g,k * 3 + 2,none⟩ = some (.int .i64 L.fs[k].s):=by
 have hk':k < (L.fs.map dD).length:=by rw [List.length_map];exact hk
 have hrow:(L.fs.map dD)[k] = dD L.fs[k]:=by simp
 have H:∀ i u,(dD L.fs[k])[i]? = some u -> w.cell? ⟨g,k * 3 + i,none⟩ = some u:=fun i u hu=>by
  have:=h.fr.flat (k * 3 + i) u (nT h.fr.each hk' (by rw [hrow];exact hu))
  rwa [Addr.add_lit,Nat.zero_add] at this
 exact ⟨H 0 _ rfl,H 1 _ rfl,H 2 _ rfl⟩
def aS (lb db mb tb:Nat) (w:World) (ev fv:Value) (w':World) (ev' fv':Value):Prop :=
 Kept w w' (jR lb db mb tb ev fv) /\ (∀ b,ev'.ownBlock = some b -> ev.ownBlock = some b \/ w.heap.size <= b) /\ (∀ b,fv'.ownBlock = some b -> fv.ownBlock = some b \/ w.heap.size <= b)
theorem aS.refl (lb db mb tb:Nat) (w:World) (ev fv:Value):aS lb db mb tb w ev fv w ev fv:=⟨Kept.refl _ _,fun _ h=>.inl h,fun _ h=>.inl h⟩
theorem aS.trans {lb db mb tb:Nat} {w w1 w2:World} {ev fv ev' fv' ev'' fv'':Value} (h:aS lb db mb tb w ev fv w1 ev' fv') (k:aS lb db mb tb w1 ev' fv' w2 ev'' fv''):aS lb db mb tb w ev fv w2 ev'' fv'':=by
 refine ⟨h.1.andThen k.1 fun b hb hs=>?_,fun b hb=>?_,fun b hb=>?_⟩
 ·rcases hs with hs | hs | hs | hs | hs
  ·exact hs
  ·exact .inl hs
  ·exact .inr (.inl hs)
  ·rcases h.2.1 b hs with e | e
   ·exact .inr (.inr (.inl e))
   ·exact absurd hb (Nat.not_lt.2 e)
  ·rcases h.2.2 b hs with e | e
   ·exact .inr (.inr (.inr e))
   ·exact absurd hb (Nat.not_lt.2 e)
 ·rcases k.2.1 b hb with e | e
  ·exact h.2.1 b e
  ·exact .inr (Nat.le_trans h.1.size e)
 ·rcases k.2.2 b hb with e | e
  ·exact h.2.2 b e
  ·exact .inr (Nat.le_trans h.1.size e)
theorem aS.below {lb db mb tb:Nat} {w w':World} {ev fv:Value} (h:Below w.heap.size w w'):aS lb db mb tb w ev fv w' ev fv :=
 ⟨Kept.aJ h fun k h1 h2=>by omega,fun _ h=>.inl h,fun _ h=>.inl h⟩
theorem aS.dN {lb db mb tb:Nat} {w w':World} {ev fv:Value} (h:Kept w w' (bB db mb tb)):aS lb db mb tb w ev fv w' ev fv :=
 ⟨h.mono fun _k _ e=>.inr (.inl e),fun _ h=>.inl h,fun _ h=>.inl h⟩
theorem aS.own {lb db mb tb:Nat} {w w':World} {ev fv:Value} (h:Kept w w' (fun k=>k = lb)):aS lb db mb tb w ev fv w' ev fv :=
 ⟨h.mono fun _k _ e=>.inl e,fun _ h=>.inl h,fun _ h=>.inl h⟩
theorem bD.new {w:World} {db mb tb:Nat} {D:aA} (h:aG w db mb tb D) :
  bD (w.alloc (.cells #[.pointer (some ⟨db,0,none⟩),.int .u64 0,.slice none 0 0,.slice none 0 0,.int .i64 0] 34)) w.heap.size db mb tb (.slice none 0 0) (.slice none 0 0) [] D ⟨0,[],[],0⟩:=by
 have hb:(w.alloc (.cells #[.pointer (some ⟨db,0,none⟩),.int .u64 0,.slice none 0 0,.slice none 0 0,.int .i64 0] 34)).heap[w.heap.size]? = some (.cells #[.pointer (some ⟨db,0,none⟩),.int .u64 0,.slice none 0 0,.slice none 0 0,.int .i64 0] 34 (0,0)):=heap_alloc_new _ _
 refine ⟨h.below ((Below.refl _ _).alloc (Nat.le_refl _) _),by go_cell,by go_cell,by go_cell,by go_cell,by go_cell,fun j _ _=>by simp,fun k hk j x hx=>?_,rfl,cA.nil _ _ _,cA.nil _ _ _,nofun,fun e=>?_,nofun,nofun⟩
 ·subst hk
  unfold World.cell? at hx
  simp only at hx
  rw [hb] at hx
  rcases j with _ | _ | _ | _ | _ | j <;> simp at hx
 ·have:=h.lt3 _ e
  omega
theorem jA {w:World} {S:Nat -> Prop} {l:bE} (h:bM w S l):No8 (aL l).flatten:=by
 intro x hx
 obtain ⟨r,hr,hx⟩:=List.mem_flatten.1 hx
 obtain ⟨p,hp,rfl⟩:=List.mem_map.1 hr
 simp only [fZ,List.mem_cons,List.not_mem_nil,or_false,reduceCtorEq,Value.int.injEq,false_and,false_or] at hx
 obtain ⟨a,c,e,_⟩:=(h p hp).1.shape
 rw [e] at hx
 cases hx
end Go.Proofs.YtjdglpcnkiioeaaGreat
namespace Go.Proofs.YtjdglpcnkiioeaaGreat
open Go.Lib (hid)
open Go.RowKit Go.Maps Go.Proofs.Own

theorem rT:lL Tryz.prog 23 38 3 40:=by
 obtain ⟨i0,hi,hz0,hz1,hz2⟩:=info_parts (show (Tryz.prog.info? 38).map (fun i=>(i.zero,i.size,i.bytes)) = some (some (.agg #[.int .u64 0,.int .i64 0,.slice none 0 0]),3,40) by kernel_rfl)
 exact ⟨Tryz.underlying23,⟨i0,_,hi,hz0,hz1,hz2,rfl⟩,by decide,by decide⟩
theorem aBW:lL Tryz.prog 32 188 3 24:=by
 obtain ⟨i0,hi,hz0,hz1,hz2⟩:=info_parts (show (Tryz.prog.info? 188).map (fun i=>(i.zero,i.size,i.bytes)) = some (some (.agg #[.int .u64 0,.int .i64 0,.int .i64 0]),3,24) by kernel_rfl)
 exact ⟨Tryz.underlying32,⟨i0,_,hi,hz0,hz1,hz2,rfl⟩,by decide,by decide⟩
theorem rU:aB7 Tryz.prog 38:=fun i z hi hz=>by
 obtain ⟨i0,h1,h2,_,_⟩:=info_parts (show (Tryz.prog.info? 38).map (fun i=>(i.zero,i.size,i.bytes)) = some (some (.agg #[.int .u64 0,.int .i64 0,.slice none 0 0]),3,40) by kernel_rfl)
 rw [hi] at h1
 cases h1
 rw [hz] at h2
 cases h2
 intro x hx
 simp [Value.cells] at hx
theorem aBX:aB7 Tryz.prog 188:=fun i z hi hz=>by
 obtain ⟨i0,h1,h2,_,_⟩:=info_parts (show (Tryz.prog.info? 188).map (fun i=>(i.zero,i.size,i.bytes)) = some (some (.agg #[.int .u64 0,.int .i64 0,.int .i64 0]),3,24) by kernel_rfl)
 rw [hi] at h1
 cases h1
 rw [hz] at h2
 cases h2
 intro x hx
 simp [Value.cells] at hx
theorem aG8 (l:List WF):No8 (l.map dD).flatten:=by
 intro x hx
 obtain ⟨r,hr,hx⟩:=List.mem_flatten.1 hx
 obtain ⟨p,hp,rfl⟩:=List.mem_map.1 hr
 simp [dD] at hx
theorem aG9 (l:List WF):∀ r ∈ l.map dD,∀ u ∈ r,u.oneCell' = true:=fun r hr u hu=>by
 obtain ⟨p,hp,rfl⟩:=List.mem_map.1 hr
 simp only [dD,List.mem_cons,List.not_mem_nil,or_false] at hu
 rcases hu with rfl | rfl | rfl <;> rfl

set_option maxRecDepth 20000 in
theorem yE (v:Value) (l:bE) (w:World) (h:cS w 3 v (aL l)) (hd:bM w (fun _=>False) l) (hl:l.length <= 2147483648) :
  Calls Tryz.prog 116 #[v] w fun e w'=>∃ v',e = .returned v' /\ cA w' 38 3 v' (aL l) /\ Below w.heap.size w w' /\ ∀ b,v'.ownBlock = some b -> w.heap.size <= b:=by
 have H:=hid h
 have HD:=hid hd
 have HL:=hid hl
 obtain ⟨a,c,rfl,_⟩:=h.shape
 have HN:Hid ((aL l).length = l.length):=hid (aK l)
 clear hd hl
 cases a with
 | none =>
  have hz:l = []:=by
   cases l with
   | nil=>rfl
   | cons p r =>
    obtain ⟨b,o,e,_⟩:=h.at (j:=0) (by simp [aL])
    cases e
  subst hz
  clear h
  rw [show (aL ([]:bE)).length = 0 from rfl]
  have h0:=fun w=>Lib.run_eql_slice_nil (P:=Tryz.prog) w 23 38 none 0 c 0 0 Tryz.underlying23
  go_enter Tryz.func116,Tryz.ntmps116
  go_wp2_with fail
  go_ret
  exact ⟨_,rfl,cA.nil _ _ _,Below.refl _ _,nofun⟩
 | some ad =>
  have h0:=fun w=>Lib.run_eql_slice_nil (P:=Tryz.prog) w 23 38 (some ad) (aL l).length c 0 0 Tryz.underlying23
  clear h
  generalize hq:(aL l).length = q at *
  have HQ:=hid hq
  clear hq
  go_enter Tryz.func116,Tryz.ntmps116
  go_wp2_with (at_builtin;go_loud (refine cJ rT _ _ rfl (.slice (some ⟨w.heap.size,0,none⟩) 0 0) (.slice (some ad) q c) [] (aL l) rfl rfl (cA.made (heap_alloc_new _ _)) (H.out.below ((Below.refl _ _).alloc (Nat.le_refl _) _)) (iB l) HD.out.mJ (jA HD.out) rU (by have:=HL.out;have:=HN.out;have:=HQ.out;simp only [List.length_nil];omega) rfl ?_;intro v2 w2 ho2 hg2 hat2;have O2:=hid ho2;have G2:=hid hg2;have A2:=hid hat2;clear ho2 hg2 hat2))
  go_ret
  have ho:∀ b,v2.ownBlock = some b -> w.heap.size <= b:=fun b hb=>by
   rcases A2.out with e | e
   ·rw [e] at hb
    obtain rfl:=Option.some.inj hb
    exact Nat.le_refl _
   ·rw [e] at hb
    obtain rfl:=Option.some.inj hb
    simp
  refine ⟨v2,rfl,by have h:=O2.out;rw [List.nil_append] at h;exact h,?_,ho⟩
  exact ((Below.refl _ _).alloc (Nat.le_refl _) _).grown G2.out (by simp) (fun g hg=>by obtain rfl:=Option.some.inj hg;exact Nat.le_refl _)
set_option maxRecDepth 20000 in
theorem yF (v:Value) (l:List WF) (w:World) (h:cS w 3 v (l.map dD)) (hl:l.length <= 2147483648) :
  Calls Tryz.prog 121 #[v] w fun e w'=>∃ v',e = .returned v' /\ cA w' 188 3 v' (l.map dD) /\ Below w.heap.size w w' /\ ∀ b,v'.ownBlock = some b -> w.heap.size <= b:=by
 have H:=hid h
 have HL:=hid hl
 obtain ⟨a,c,rfl,_⟩:=h.shape
 have HN:Hid ((l.map dD).length = l.length):=hid (List.length_map ..)
 clear hl
 cases a with
 | none =>
  have hz:l = []:=by
   cases l with
   | nil=>rfl
   | cons p r =>
    obtain ⟨b,o,e,_⟩:=h.at (j:=0) (by simp)
    cases e
  subst hz
  clear h
  rw [show (List.map dD ([]:List WF)).length = 0 from rfl]
  have h0:=fun w=>Lib.run_eql_slice_nil (P:=Tryz.prog) w 32 188 none 0 c 0 0 Tryz.underlying32
  go_enter Tryz.func121,Tryz.ntmps121
  go_wp2_with fail
  go_ret
  exact ⟨_,rfl,cA.nil _ _ _,Below.refl _ _,nofun⟩
 | some ad =>
  have h0:=fun w=>Lib.run_eql_slice_nil (P:=Tryz.prog) w 32 188 (some ad) (l.map dD).length c 0 0 Tryz.underlying32
  clear h
  generalize hq:(l.map dD).length = q at *
  have HQ:=hid hq
  clear hq
  go_enter Tryz.func121,Tryz.ntmps121
  go_wp2_with (at_builtin;go_loud (refine cJ aBW _ _ rfl (.slice (some ⟨w.heap.size,0,none⟩) 0 0) (.slice (some ad) q c) [] (l.map dD) rfl rfl (cA.made (heap_alloc_new _ _)) (H.out.below ((Below.refl _ _).alloc (Nat.le_refl _) _)) (aES l) (aG9 l) (aG8 l) aBX (by have:=HL.out;have:=HN.out;have:=HQ.out;simp only [List.length_nil];omega) rfl ?_;intro v2 w2 ho2 hg2 hat2;have O2:=hid ho2;have G2:=hid hg2;have A2:=hid hat2;clear ho2 hg2 hat2))
  go_ret
  have ho:∀ b,v2.ownBlock = some b -> w.heap.size <= b:=fun b hb=>by
   rcases A2.out with e | e
   ·rw [e] at hb
    obtain rfl:=Option.some.inj hb
    exact Nat.le_refl _
   ·rw [e] at hb
    obtain rfl:=Option.some.inj hb
    simp
  refine ⟨v2,rfl,by have h:=O2.out;rw [List.nil_append] at h;exact h,?_,ho⟩
  exact ((Below.refl _ _).alloc (Nat.le_refl _) _).grown G2.out (by simp) (fun g hg=>by obtain rfl:=Option.some.inj hg;exact Nat.le_refl _)
end Go.Proofs.YtjdglpcnkiioeaaGreat
namespace Go.Proofs.YtjdglpcnkiioeaaGreat
open Go.RowKit Go.Maps Go.Proofs.Own Go.Shelf

def rD (fs:List WF):Nat:=(fs.map (·.m)).sum
theorem nD (a b:List WF):rD (a ++ b) = rD a + rD b:=by unfold rD;rw [List.map_append,List.sum_append]
theorem qQ (f:WF):rD [f] = f.m:=by simp [rD]
structure LOk (L:aM):Prop where
 nm:∀ f ∈ L.fs,1 <= f.f /\ f.f < 1152921504606846976
 sum:rD L.fs <= L.es.length
 few:L.es.length <= 2147483648
 b:L.b <= 1152921504606846976
 safe:L.safe <= L.es.length
 size:∀ f ∈ L.fs,f.s <= 2097152
theorem LOk.m {L:aM} (h:LOk L) {f:WF} (hf:f ∈ L.fs):f.m <= L.es.length:=by
 obtain ⟨A,B,e⟩:=List.append_of_mem hf
 have:=h.sum
 rw [e,show A ++ f :: B = A ++ ([f] ++ B) by simp,nD,nD,qQ] at this
 omega
theorem LOk.last {L:aM} (h:LOk L):L.last <= 1152921506754330624:=by
 have:=h.few
 have:=h.b
 unfold aM.last
 omega
theorem aD4 {fs:List WF} {f:WF} (h:fs.getLast? = some f):fs = fs.dropLast ++ [f]:=by
 rw [List.getLast?_eq_some_iff] at h
 obtain ⟨ys,rfl⟩:=h
 rw [List.dropLast_concat]
theorem LOk.pop {D:aA} {L:aM} (h:LOk L):LOk (popW D L).2.1:=by
 unfold popW
 cases e:L.fs.getLast? with
 | none=>exact h
 | some f =>
  simp only
  split
  ·exact h
  ·have hs:=aD4 e
   have h1:=h.sum
   have h2:=h.few
   rw [hs,nD,qQ] at h1
   refine ⟨fun g hg=>h.nm g (List.dropLast_subset _ hg),?_,?_,h.b,?_,fun g hg=>h.size g (List.dropLast_subset _ hg)⟩
   ·simp only [List.length_take];omega
   ·simp only [List.length_take];omega
   ·have:=h.safe
    simp only [List.length_take];omega
end Go.Proofs.YtjdglpcnkiioeaaGreat
namespace Go.Proofs.YtjdglpcnkiioeaaGreat
open Go.Lib (hid)
open Go.RowKit Go.Maps Go.Proofs.Own

theorem aBo (e:bR):aCu e.t e.k e.d.length = decide e.ok:=by
 rw [Bool.eq_iff_iff,decide_eq_true_iff]
 unfold aCu bR.ok
 simp only [Bool.and_eq_true,decide_eq_true_eq]
 constructor
 ·rintro ⟨h1,h2,h3,h4,h5⟩
  exact ⟨h1,h2,h3,h4,by omega⟩
 ·rintro ⟨h1,h2,h3,h4,h5⟩
  exact ⟨h1,h2,h3,h4,by omega⟩

set_option maxRecDepth 20000 in
theorem aAE (n:Nat) (w:World) (hn:(n:Int) < 18446744073709551616) :
  Calls Tryz.prog 114 #[.int .u64 n] w fun e w'=>∃ v',e = .returned v' /\ cL w' w.heap.size 5 .u8 v' (ints (dH n)) /\ Below w.heap.size w w':=by
 have HT:Hid (∀ x ∈ [n],(x:Int) < 18446744073709551616):=hid (by
  intro x hx
  obtain rfl:=List.mem_singleton.1 hx
  exact hn)
 have HNW:Hid (bV [n] = cZ n):=hid (by simp [bV])
 have HL:Hid ((cZ n).length <= 9):=hid (gU hn)
 have HLT:Hid (∀ c ∈ cZ n,c < 256):=hid (tM hn)
 clear hn
 go_enter Tryz.func114,Tryz.ntmps114
 go_wp2_with fail
 have W1:Hid (∀ o:Obj,fW ((w.alloc (.cells #[.slice none 0 0] 246)).alloc o) w.heap.size (.slice none 0 0) []):=hid fun o =>
  (fW.new w).below ((Below.refl _ _).alloc (Nat.le_refl _) o)
 have X2:Hid (∀ x:Int,Reads ((w.alloc (.cells #[.slice none 0 0] 246)).alloc (.cells #[.int .u64 x] 22)) .u64 (.slice (some ⟨w.heap.size + 1,0,none⟩) 1 1) [x]):=hid fun x=>by
  have h:=Reads.one (w.alloc (.cells #[.slice none 0 0] 246)) .u64 x 22
  simpa using h
 refine (nP w.heap.size _ _ [] [n] _ (W1.out _) (X2.out _) HT.out (by
  intro b hb
  simp only [Value.ownBlock] at hb
  obtain rfl:=Option.some.inj hb
  exact ⟨by omega,by simp [Value.ownBlock]⟩) (by simp)).mono ?_
 rintro e w2 ⟨rfl,v2,hw2,hg2⟩
 have B2:Hid (Below w.heap.size w w2):=hid (by
  have h:=hg2.below (W1.out _)
  exact ((Below.refl _ _).alloc (Nat.le_refl _) _).alloc (by simp) _ |>.trans h)
 have W2:Hid (fW w2 w.heap.size v2 (cZ n)):=hid (by rw [<- HNW.out];simpa using hw2)
 clear hw2 hg2 W1 X2
 generalize hL:cZ n = L at *
 go_wp2_with fail
 refine (oR _ v2 L w2 W2.out (by have:=HL.out;omega) HLT.out).mono ?_
 rintro e w5 ⟨v5,rfl,hB5,hb5⟩
 have HB5:=hid hB5
 have B5:Hid (Below w.heap.size w w5):=hid (B2.out.trans (hb5.mono B2.out.size))
 clear hB5 hb5
 go_wp2_with fail
 refine (aDu 1 v5 L w5 HB5.out (by decide) (by decide) (by have:=HL.out;omega)).mono ?_
 rintro e w6 ⟨v6,rfl,hB6,hb6,ho6⟩
 have HO6:Hid (cL w6 w.heap.size 5 .u8 v6 (ints (dH n))):=hid (by
  have h:=ho6.lower fun g hg=>Nat.le_trans B5.out.size (ho6.lt g hg).1
  unfold dH
  rw [hL]
  exact h)
 have B6:Hid (Below w.heap.size w w6):=hid (B5.out.trans (hb6.mono B5.out.size))
 clear hB6 hb6 ho6
 go_wp2_with fail
 go_ret
 exact ⟨v6,rfl,HO6.out,B6.out⟩

theorem aCH {i:Nat} {e:bR} (hi:(i:Int) < 18446744073709551616) (h:e.ok):(bV [i,e.t.toNat,e.k.toNat]).length <= 27 /\ (∀ c ∈ bV [i,e.t.toNat,e.k.toNat],c < 256) /\ (cZ e.d.length).length <= 9 /\ (∀ c ∈ cZ e.d.length,c < 256):=by
 obtain ⟨h1,h2,h3,h4,h5⟩:=h
 have ht:∀ x ∈ [i,e.t.toNat,e.k.toNat],(x:Int) < 18446744073709551616:=by
  intro x hx
  simp only [List.mem_cons,List.not_mem_nil,or_false] at hx
  rcases hx with rfl | rfl | rfl <;> omega
 exact ⟨by have:=jE _ ht;simpa using this,pT _ ht,gU (by omega),tM (by omega)⟩

theorem aHL (i:Int) (e:bR) (dv:Value) (w:World) (hB:Bytes w dv e.d) (h:¬ e.ok) :
  Calls Tryz.prog 159 #[.int .u64 i,.agg #[.int .u64 e.t,.int .i64 e.k,dv]] w fun E w'=>E = .returned (.tuple #[.slice none 0 0,.int .i64 2]) /\ Below w.heap.size w w':=by
 have HS:Hid (aCu e.t e.k e.d.length = false):=hid (by rw [aBo];exact decide_eq_false h)
 have HB:=hid hB
 obtain ⟨t,k,d⟩:=e
 obtain ⟨a,c,rfl,_⟩:=hB.shape
 clear hB h
 go_enter Tryz.func159,Tryz.ntmps159
 go_wp2_with fail
 refine (rX t k _ d _ (HB.out.below ((Below.refl _ _).alloc (Nat.le_refl _) _))).mono ?_
 rintro E w1 ⟨rfl,hb1⟩
 have B1:Hid (Below w.heap.size w w1):=hid (((Below.refl _ _).alloc (Nat.le_refl _) _).trans (hb1.mono (by simp)))
 rw [HS.out]
 clear hb1
 go_wp2_with fail
 go_ret2
 exact ⟨rfl,B1.out⟩

set_option maxRecDepth 20000 in
theorem aF5 (i:Nat) (e:bR) (dv:Value) (w:World) (hB:Bytes w dv e.d) (h:e.ok) (hi:(i:Int) < 18446744073709551616) :
  Calls Tryz.prog 159 #[.int .u64 i,.agg #[.int .u64 e.t,.int .i64 e.k,dv]] w fun E w'=>∃ v',E = .returned (.tuple #[v',.int .i64 0]) /\ Bytes w' v' (eA i e) /\ Below w.heap.size w w':=by
 have HS:Hid (aCu e.t e.k e.d.length = true):=hid (by rw [aBo];exact decide_eq_true h)
 have HB:=hid hB
 have HLB:=hid (aCH hi h)
 obtain ⟨t,k,d⟩:=e
 obtain ⟨h1,h2,h3,h4,h5⟩:=h
 simp only at h1 h2 h3 h4 h5 HLB HS HB hB ⊢
 have HD5:=hid h5
 have HTK:Hid (t = (t.toNat:Int) /\ k = (k.toNat:Int)):=hid ⟨by omega,by omega⟩
 have HT3:Hid (∀ x ∈ [i,t.toNat,k.toNat],(x:Int) < 18446744073709551616):=hid (by
  intro x hx
  simp only [List.mem_cons,List.not_mem_nil,or_false] at hx
  rcases hx with rfl | rfl | rfl <;> omega)
 have HDS:Hid ((convert 36 9 dv).run Tryz.prog w = .ok (.string (fM d)) w):=hid (hB.str Tryz.underlying36 Tryz.underlying5 Tryz.underlying9)
 have HK:IntKind.u64.wrap k = k:=by rw [wrap_u64];omega
 obtain ⟨a,c,rfl,_⟩:=hB.shape
 clear hB h5
 go_enter Tryz.func159,Tryz.ntmps159
 go_wp2_with fail
 have BE:Hid (Below w.heap.size w (w.alloc (.cells #[.int .u64 t,.int .i64 k,.slice a d.length c] 38))):=hid ((Below.refl _ _).alloc (Nat.le_refl _) _)
 have CE:Hid ((w.alloc (.cells #[.int .u64 t,.int .i64 k,.slice a d.length c] 38)).cell? ⟨w.heap.size,0,none⟩ = some (.int .u64 t) /\ (w.alloc (.cells #[.int .u64 t,.int .i64 k,.slice a d.length c] 38)).cell? ⟨w.heap.size,1,none⟩ = some (.int .i64 k) /\ (w.alloc (.cells #[.int .u64 t,.int .i64 k,.slice a d.length c] 38)).cell? ⟨w.heap.size,2,none⟩ = some (.slice a d.length c)):=hid ⟨by go_cell,by go_cell,by go_cell⟩
 have LE:w.heap.size < (w.alloc (.cells #[.int .u64 t,.int .i64 k,.slice a d.length c] 38)).heap.size:=by simp
 generalize World.alloc w _ = w1 at *
 have HB1:=hid (HB.out.below BE.out)
 refine (rX t k _ d w1 HB1.out).mono ?_
 rintro E w2 ⟨rfl,hb2⟩
 have B2:Hid (Below w.heap.size w w2):=hid (BE.out.trans (hb2.mono (Nat.le_of_lt LE)))
 have e0:=Below.at hb2 CE.out.1 LE
 have e1:=Below.at hb2 CE.out.2.1 LE
 have e2:=Below.at hb2 CE.out.2.2 LE
 have LE2:=Nat.lt_of_lt_of_le LE hb2.size
 have HB2:=hid (HB1.out.below hb2)
 rw [HS.out]
 clear hb2 CE
 go_wp2_with fail
 have W3:Hid (∀ o:Obj,fW ((w2.alloc (.cells #[.slice none 0 0] 246)).alloc o) w2.heap.size (.slice none 0 0) []):=hid fun o =>
  (fW.new w2).below ((Below.refl _ _).alloc (Nat.le_refl _) o)
 have X3:Hid (Reads ((w2.alloc (.cells #[.slice none 0 0] 246)).alloc (.cells #[.int .u64 i,.int .u64 t,.int .u64 k] 22)) .u64 (.slice (some ⟨w2.heap.size + 1,0,none⟩) 3 3) (ints [i,t.toNat,k.toNat])):=hid (by
  have h:=Reads.three (w2.alloc (.cells #[.slice none 0 0] 246)) .u64 i t k 22
  have hi3:ints [i,t.toNat,k.toNat] = [(i:Int),t,k]:=by
   unfold ints
   simp only [List.map_cons,List.map_nil]
   rw [<- HTK.out.1,<- HTK.out.2]
  rw [hi3]
  simpa using h)
 refine (nP w2.heap.size _ _ [] [i,t.toNat,k.toNat] _ (W3.out _) X3.out HT3.out (by
  intro b hb
  simp only [Value.ownBlock] at hb
  obtain rfl:=Option.some.inj hb
  exact ⟨by omega,by simp [Value.ownBlock]⟩) (by simp)).mono ?_
 rintro E w3 ⟨rfl,v3,hw3,hg3⟩
 have B23:Hid (Below w2.heap.size w2 w3):=hid (by
  have h:=hg3.below (W3.out _)
  exact ((Below.refl _ _).alloc (Nat.le_refl _) _).alloc (by simp) _ |>.trans h)
 have HW3:Hid (fW w3 w2.heap.size v3 (bV [i,t.toNat,k.toNat])):=hid (by simpa using hw3)
 have c2:=Below.at B23.out e2 LE2
 have HB3:=hid (HB2.out.below B23.out)
 have hds:(convert 36 9 (.slice a d.length c)).run Tryz.prog w3 = .ok (.string (fM d)) w3:=HB3.out.str Tryz.underlying36 Tryz.underlying5 Tryz.underlying9
 clear hw3 hg3 W3 X3 HDS HK e0 e1 e2
 go_wp2_with fail
 refine (aBe w2.heap.size v3 (bV [i,t.toNat,k.toNat]) (fM d) w3 HW3.out (by rw [lG];have:=HLB.out.1;have:=HD5.out;omega)).mono ?_
 rintro E w4 ⟨rfl,v4,hw4,hg4⟩
 have HW4:Hid (fW w4 w2.heap.size v4 (kN i ⟨t,k,d⟩)):=hid (by
  have h:=hw4
  rw [lG,gT HB.out.lt] at h
  exact h)
 have B24:Hid (Below w2.heap.size w2 w4):=hid (B23.out.trans (hg4.below HW3.out))
 have HL4:Hid ((kN i ⟨t,k,d⟩).length <= 10000 /\ ∀ c ∈ kN i ⟨t,k,d⟩,c < 256):=hid (by
  obtain ⟨q1,q2,q3,q4⟩:=HLB.out
  have q5:=HD5.out
  refine ⟨by unfold kN;simp only [List.length_append];omega,fun c hc=>?_⟩
  unfold kN at hc
  rcases List.mem_append.1 hc with hc | hc
  ·exact q2 c hc
  ·rcases List.mem_append.1 hc with hc | hc
   ·exact q4 c hc
   ·exact HB.out.lt c hc)
 clear hw4 hg4 hds c2
 have HLW:Hid (eA i ⟨t,k,d⟩ = frP 2 (kN i ⟨t,k,d⟩)):=hid rfl
 generalize kN i ⟨t,k,d⟩ = R at *
 go_wp2_with fail
 refine (oR _ v4 R w4 HW4.out (by have:=HL4.out.1;omega) HL4.out.2).mono ?_
 rintro E w5 ⟨v5,rfl,hB5,hb5⟩
 have HB5:=hid hB5
 have B5:Hid (Below w.heap.size w w5):=hid (B2.out.trans ((B24.out.trans (hb5.mono B24.out.size)).mono B2.out.size))
 clear hB5 hb5
 go_wp2_with fail
 refine (aAh 2 v5 R w5 HB5.out (by decide) (by decide) (by have:=HL4.out.1;omega)).mono ?_
 rintro E w6 ⟨v6,rfl,hB6,hb6,ho6⟩
 have HB6:=hid hB6
 have B6:Hid (Below w.heap.size w w6):=hid (B5.out.trans (hb6.mono B5.out.size))
 clear hB6 hb6 ho6
 go_wp2_with fail
 go_ret2
 rw [HLW.out]
 exact ⟨v6,rfl,HB6.out,B6.out⟩

set_option maxRecDepth 20000 in
theorem aJb (kd:Nat) (v:Value) (l:List Nat) (rb:Nat) (w:World) (hB:Bytes w v l) (hrb:l = [] \/ v.ownBlock = some rb) (hlt:rb < w.heap.size) :
  Calls Tryz.prog 75 #[.int .u8 kd,v] w fun e w'=>e = .returned (.int .u64 ((if kd = 1 /\ pB (dR H60 l) (dQ H60 l) = 0 then cY H60 l else 0:Nat))) /\ Below w.heap.size w w':=by
 have HB:=hid hB
 have HRB:=hid hrb
 have HLT:=hid hlt
 obtain ⟨a,c,rfl,_⟩:=hB.shape
 obtain ⟨q,hq⟩:∃ q,pB (dR H60 l) (dQ H60 l) = q:=⟨_,rfl⟩
 rw [hq]
 have HQ:=hid hq
 clear hB hrb hlt hq
 by_cases h1:kd = 1
 ·have b1:((kd:Int) != 1) = false:=by rw [h1];rfl
  by_cases h2:q = 0
  ·rw [if_pos ⟨h1,h2⟩]
   have b2:((q:Int) != 0) = false:=by rw [h2];rfl
   clear h1 h2
   go_enter Tryz.func75,Tryz.ntmps75
   go_wp2_with fail
   refine (lF _ _ _ HB.out HRB.out (Nat.ne_of_lt HLT.out)).mono ?_
   rintro e w1 ⟨rfl,hr1,hb1⟩
   have R1:=hid hr1
   have B1:=hid hb1
   clear hr1 hb1
   go_wp2_with fail
   refine (fT _ _ _ _ _ R1.out (by decide) (by decide)).mono ?_
   rintro e w2 ⟨rfl,hr2,hk2⟩
   have R2:Hid (dA w2 w.heap.size rb (dR H60 l) (dQ H60 l)):=hid (by have h:=hr2;rw [Bool.false_or] at h;exact h)
   have B2:Hid (Below w.heap.size w w2):=hid (B1.out.trans (hk2.below B1.out.size fun k e=>by omega))
   obtain ⟨n,hn⟩:∃ n,cY (Int.toNat 1152921504606846976) l = n:=⟨_,rfl⟩
   have HN:Hid (cY H60 l = n):=hid hn
   rw [hn]
   clear hr2 hk2 hn
   go_wp2_with fail
   refine (lU _ _ _ _ R2.out).mono ?_
   rintro e w3 ⟨rfl,rfl⟩
   rw [HQ.out]
   go_wp2_with fail
   go_ret
   rw [HN.out]
   exact ⟨rfl,B2.out⟩
  ·rw [if_neg fun h=>h2 h.2]
   have b2:((q:Int) != 0) = true:=by simp;omega
   clear h1 h2
   go_enter Tryz.func75,Tryz.ntmps75
   go_wp2_with fail
   refine (lF _ _ _ HB.out HRB.out (Nat.ne_of_lt HLT.out)).mono ?_
   rintro e w1 ⟨rfl,hr1,hb1⟩
   have R1:=hid hr1
   have B1:=hid hb1
   clear hr1 hb1
   go_wp2_with fail
   refine (fT _ _ _ _ _ R1.out (by decide) (by decide)).mono ?_
   rintro e w2 ⟨rfl,hr2,hk2⟩
   have R2:Hid (dA w2 w.heap.size rb (dR H60 l) (dQ H60 l)):=hid (by have h:=hr2;rw [Bool.false_or] at h;exact h)
   have B2:Hid (Below w.heap.size w w2):=hid (B1.out.trans (hk2.below B1.out.size fun k e=>by omega))
   generalize cY (Int.toNat 1152921504606846976) l = n at *
   clear hr2 hk2
   go_wp2_with fail
   refine (lU _ _ _ _ R2.out).mono ?_
   rintro e w3 ⟨rfl,rfl⟩
   rw [HQ.out]
   go_wp2_with fail
   go_ret
   exact ⟨rfl,B2.out⟩
 ·rw [if_neg fun h=>h1 h.1]
  have b1:((kd:Int) != 1) = true:=by simp;omega
  clear h1
  go_enter Tryz.func75,Tryz.ntmps75
  go_wp2_with fail
  refine (lF _ _ _ HB.out HRB.out (Nat.ne_of_lt HLT.out)).mono ?_
  rintro e w1 ⟨rfl,hr1,hb1⟩
  have R1:=hid hr1
  have B1:=hid hb1
  clear hr1 hb1
  go_wp2_with fail
  refine (fT _ _ _ _ _ R1.out (by decide) (by decide)).mono ?_
  rintro e w2 ⟨rfl,hr2,hk2⟩
  have B2:Hid (Below w.heap.size w w2):=hid (B1.out.trans (hk2.below B1.out.size fun k e=>by omega))
  generalize cY (Int.toNat 1152921504606846976) l = n at *
  clear hr2 hk2
  go_wp2_with fail
  go_ret
  exact ⟨rfl,B2.out⟩
end Go.Proofs.YtjdglpcnkiioeaaGreat
