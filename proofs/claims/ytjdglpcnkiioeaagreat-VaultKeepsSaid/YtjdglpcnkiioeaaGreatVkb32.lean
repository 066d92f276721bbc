/- Several texts in one: Sgl, Sgy, Sgs for vltkeeps_law_holds. No conditions but those stated. -/
import Derived.Test.YtjdglpcnkiioeaaGreatVkb31
import Derived.Test.YtjdglpcnkiioeaaGreatVkb7
set_option maxHeartbeats 16000000
namespace Go.Proofs.YtjdglpcnkiioeaaGreat
open Go.Lib (hid)
open Go.RowKit Go.Maps Go.Proofs.Own

def yN (l:List Nat):List Nat:=dR M64 l
def yO (l:List Nat):List Nat:=dR H60 (yN l)
def qX (l:List Nat):List Nat:=dR 3 (yO l)
def lbI (l:List Nat):Nat:=cY M64 l
def lbX (l:List Nat):bR:=⟨cY H60 (yN l),cY 3 (yO l),fV 4096 (qX l)⟩
def lbE (l:List Nat):Nat:=pB (oX 4096 (qX l)) (((dQ M64 l || dQ H60 (yN l)) || dQ 3 (yO l)) || nO 4096 (qX l))
structure EC (W:World) (b:Nat) (t k:Int) (dv:Value):Prop where
 c0:W.cell? ⟨b,0,none⟩ = some (.int .u64 t)
 c1:W.cell? ⟨b,1,none⟩ = some (.int .i64 k)
 c2:W.cell? ⟨b,2,none⟩ = some dv
 f0:W.frozen? ⟨b,0,none⟩ = false
 f1:W.frozen? ⟨b,1,none⟩ = false
 f2:W.frozen? ⟨b,2,none⟩ = false
theorem EC.lt {W:World} {b:Nat} {t k:Int} {dv:Value} (h:EC W b t k dv):b < W.heap.size:=World.block_lt_of_cell? _ _ h.c0
theorem EC.cells {W:World} {b:Nat} {t k:Int} {dv:Value} (h:EC W b t k dv):W.cell? ⟨b,0,none⟩ = some (.int .u64 t) /\ W.cell? ⟨b,1,none⟩ = some (.int .i64 k) /\ W.cell? ⟨b,2,none⟩ = some dv:=⟨h.c0,h.c1,h.c2⟩
theorem EC.kept {W W':World} {b:Nat} {t k:Int} {dv:Value} {S:Nat -> Prop} (h:EC W b t k dv) (hk:Kept W W' S) (hs:¬ S b):EC W' b t k dv :=
 ⟨hk.cell h.c0 hs,hk.cell h.c1 hs,hk.cell h.c2 hs,(hk.frozen (a:=⟨b,0,none⟩) h.lt hs).trans h.f0,(hk.frozen (a:=⟨b,1,none⟩) h.lt hs).trans h.f1,(hk.frozen (a:=⟨b,2,none⟩) h.lt hs).trans h.f2⟩
theorem EC.below {W W':World} {b:Nat} {t k:Int} {dv:Value} (h:EC W b t k dv) (hb:Below W.heap.size W W'):EC W' b t k dv :=
 h.kept (Kept.aJ hb (S:=fun _=>False) fun k h1 h2=>by omega) id
theorem EC.set {W:World} {b:Nat} {t k:Int} {dv:Value} (h:EC W b t k dv) (t' k':Int):EC ((W.setCell ⟨b,0,none⟩ (.int .u64 t')).setCell ⟨b,1,none⟩ (.int .i64 k')) b t' k' dv:=by
 refine ⟨?_,?_,?_,by rw [World.frozen?_setCell,World.frozen?_setCell];exact h.f0,by rw [World.frozen?_setCell,World.frozen?_setCell];exact h.f1,by rw [World.frozen?_setCell,World.frozen?_setCell];exact h.f2⟩
 ·rw [World.cell?_setCell_other _ _ _ _ (by simp)]
  exact World.cell?_setCell_same _ _ _ h.c0
 ·exact World.cell?_setCell_same _ _ _ (by rw [World.cell?_setCell_other _ _ _ _ (by simp)];exact h.c1)
 ·rw [World.cell?_setCell_other _ _ _ _ (by simp),World.cell?_setCell_other _ _ _ _ (by simp)];exact h.c2
theorem EC.put {W:World} {b:Nat} {t k:Int} {dv:Value} (h:EC W b t k dv) (dv':Value):EC (W.setCell ⟨b,2,none⟩ dv') b t k dv':=by
 refine ⟨?_,?_,World.cell?_setCell_same _ _ _ h.c2,by rw [World.frozen?_setCell];exact h.f0,by rw [World.frozen?_setCell];exact h.f1,by rw [World.frozen?_setCell];exact h.f2⟩
 ·rw [World.cell?_setCell_other _ _ _ _ (by simp)];exact h.c0
 ·rw [World.cell?_setCell_other _ _ _ _ (by simp)];exact h.c1
theorem EC.mB {W:World} {b:Nat} {t k:Int} {dv:Value} (h:EC W b t k dv):EC (((W.setCell ⟨b,0,none⟩ (.int .u64 t)).setCell ⟨b,1,none⟩ (.int .i64 k)).setCell ⟨b,2,none⟩ dv) b t k dv:=(h.set t k).put dv
theorem EC.oV (W:World) (b:Nat) (x y z:Value):Kept W (((W.setCell ⟨b,0,none⟩ x).setCell ⟨b,1,none⟩ y).setCell ⟨b,2,none⟩ z) (fun k=>k = b) :=
 ((Kept.setCell W ⟨b,0,none⟩ x).trans (Kept.setCell _ ⟨b,1,none⟩ y)).trans (Kept.setCell _ ⟨b,2,none⟩ z)

set_option maxRecDepth 20000 in
theorem aJc (kd ix:Nat) (v:Value) (l:List Nat) (rb:Nat) (w:World) (hB:Bytes w v l) (hrb:l = [] \/ v.ownBlock = some rb) (hlt:rb < w.heap.size) :
  Calls Tryz.prog 76 #[.int .u8 kd,v,.int .u64 ix] w fun e w'=>∃ dv,e = .returned (.tuple #[.agg #[.int .u64 (lbX l).t,.int .i64 (lbX l).k,dv],.bool (decide (kd = 2 /\ lbE l = 0 /\ lbI l = ix /\ (lbX l).ok))]) /\ Bytes w' dv (lbX l).d /\ (∀ b,dv.ownBlock = some b -> w.heap.size <= b) /\ Below w.heap.size w w':=by
 have HB:=hid hB
 have HRB:=hid hrb
 have HLT:=hid hlt
 obtain ⟨a,c,rfl,_⟩:=hB.shape
 obtain ⟨q,hq⟩:∃ q,lbE l = q:=⟨_,rfl⟩
 have HQ:Hid (pB (oX 4096 (qX l)) (((dQ M64 l || dQ H60 (yN l)) || dQ 3 (yO l)) || nO 4096 (qX l)) = q):=hid hq
 have HQE:=hid hq
 obtain ⟨u,hu⟩:∃ u,lbI l = u:=⟨_,rfl⟩
 have HU:=hid hu
 obtain ⟨t,ht⟩:∃ t:Nat,cY H60 (yN l) = t:=⟨_,rfl⟩
 have HT:Hid ((lbX l).t = (t:Nat)):=hid (by unfold lbX;rw [ht])
 have HTE:=hid ht
 obtain ⟨k,hk⟩:∃ k:Nat,cY 3 (yO l) = k:=⟨_,rfl⟩
 have HK:Hid ((lbX l).k = (k:Nat)):=hid (by unfold lbX;rw [hk])
 have HKE:=hid hk
 have hk3:(k:Int) <= 3:=by have:=mI 3 (yO l);omega
 have hkw:IntKind.i64.wrap (k:Int) = (k:Int):=by simp only [IntKind.wrap_i64];omega
 have HGS:Hid (aCu (t:Nat) (k:Nat) (fV 4096 (qX l)).length = decide (lbX l).ok):=hid (by rw [<- aBo,HT.out,HK.out];rfl)
 obtain ⟨OK,hOK⟩:∃ b:Bool,decide (lbX l).ok = b:=⟨_,rfl⟩
 have HOK:=hid hOK
 rw [hOK] at HGS
 clear hB hrb hlt hq hu ht hk hk3 hOK
 go_enter Tryz.func76,Tryz.ntmps76
 go_wp2_with fail
 have E1:Hid (EC (w.alloc (.cells #[.int .u64 0,.int .i64 0,.slice none 0 0] 38)) w.heap.size 0 0 (.slice none 0 0)):=hid ⟨by go_cell,by go_cell,by go_cell,by simp,by simp,by simp⟩
 have B1:Hid (Below w.heap.size w (w.alloc (.cells #[.int .u64 0,.int .i64 0,.slice none 0 0] 38))):=hid ((Below.refl _ _).alloc (Nat.le_refl _) _)
 have L1:w.heap.size < (w.alloc (.cells #[.int .u64 0,.int .i64 0,.slice none 0 0] 38)).heap.size:=by simp
 generalize World.alloc w _ = w1 at *
 refine (lF _ _ w1 (HB.out.below B1.out) HRB.out (by have:=HLT.out;omega)).mono ?_
 rintro e w2 ⟨rfl,hr2,hb2⟩
 have R2:=hid hr2
 have E2:=hid (E1.out.below hb2)
 have B2:Hid (Below w.heap.size w w2):=hid (B1.out.trans (hb2.mono B1.out.size))
 obtain ⟨r,hr⟩:∃ r,w1.heap.size = r:=⟨_,rfl⟩
 have HR:Hid (w.heap.size < r):=hid (by omega)
 rw [hr] at R2 ⊢
 clear hr2 hb2 hr E1 L1 HB HRB
 have NR:Hid (¬ w.heap.size = r):=hid (by have:=HR.out;omega)
 have NRB:Hid (¬ rb = w.heap.size):=hid (by have:=HLT.out;omega)
 go_wp2_with fail
 refine (fT r 18446744073709551615 _ _ w2 R2.out (by decide) (by decide)).mono ?_
 rintro e w3 ⟨rfl,hr3,hk3⟩
 have R3:Hid (dA w3 r rb (yN l) (dQ M64 l)):=hid (by have h:=hr3;rw [Bool.false_or] at h;exact h)
 have E3:=hid (E2.out.kept hk3 NR.out)
 have B3:Hid (Below w.heap.size w w3):=hid (B2.out.trans (hk3.below B2.out.size fun b e=>by have:=HR.out;omega))
 have HU2:Hid (cY (Int.toNat 18446744073709551615) l = u):=hid HU.out
 rw [HU2.out]
 clear hr3 hk3
 go_wp2_with fail
 refine (fT r 1152921504606846976 _ _ w3 R3.out (by decide) (by decide)).mono ?_
 rintro e w4 ⟨rfl,hr4,hk4⟩
 have R4:Hid (dA w4 r rb (yO l) (dQ M64 l || dQ H60 (yN l))):=hid hr4
 have E4:=hid (E3.out.kept hk4 NR.out)
 have B4:Hid (Below w.heap.size w w4):=hid (B3.out.trans (hk4.below B3.out.size fun b e=>by have:=HR.out;omega))
 have HT2:Hid (cY (Int.toNat 1152921504606846976) (yN l) = t):=hid HTE.out
 rw [HT2.out]
 clear hr4 hk4
 go_wp2_with fail
 refine (fT r 3 _ _ w4 R4.out (by decide) (by decide)).mono ?_
 rintro e w5 ⟨rfl,hr5,hk5⟩
 have R5:Hid (dA w5 r rb (qX l) ((dQ M64 l || dQ H60 (yN l)) || dQ 3 (yO l))):=hid hr5
 have E5:=hid (E4.out.kept hk5 NR.out)
 have B5:Hid (Below w.heap.size w w5):=hid (B4.out.trans (hk5.below B4.out.size fun b e=>by have:=HR.out;omega))
 have HK2:Hid (cY (Int.toNat 3) (yO l) = k):=hid HKE.out
 rw [HK2.out]
 clear hr5 hk5
 obtain ⟨y0,y1,y2,g0,g1,g2⟩:=E5.out
 go_wp2_with fail
 have E6:Hid (EC ((w5.setCell ⟨w.heap.size,0,none⟩ (.int .u64 (t:Nat))).setCell ⟨w.heap.size,1,none⟩ (.int .i64 (k:Nat))) w.heap.size (t:Nat) (k:Nat) (.slice none 0 0)):=hid (E5.out.set _ _)
 have K6:Kept w5 ((w5.setCell ⟨w.heap.size,0,none⟩ (.int .u64 (t:Nat))).setCell ⟨w.heap.size,1,none⟩ (.int .i64 (k:Nat))) (fun b=>b = w.heap.size):=(Kept.setCell w5 ⟨w.heap.size,0,none⟩ _).trans (Kept.setCell _ ⟨w.heap.size,1,none⟩ _)
 clear y0 y1 y2 g0 g1 g2
 generalize hw6:World.setCell (World.setCell w5 _ _) _ _ = w6 at *
 have R6:Hid (dA w6 r rb (qX l) ((dQ M64 l || dQ H60 (yN l)) || dQ 3 (yO l))):=hid (R5.out.kept K6 (fun e=>NR.out e.symm) NRB.out)
 have B6:Hid (Below w.heap.size w w6):=hid (B5.out.trans (K6.below B5.out.size fun b e=>by omega))
 have HTX:Hid (bF (fM (fV 4096 (qX l))) = fV 4096 (qX l)):=hid (gT fun c hc=>by obtain ⟨v,_,hB,_⟩:=R6.out.ex;exact hB.lt c (aA6 c hc))
 clear hw6 K6
 go_wp2_with fail
 refine (aAU r 4096 _ _ w6 R6.out (by decide)).mono ?_
 rintro e w7 ⟨rfl,hr7,hk7⟩
 have R7:Hid (dA w7 r rb (oX 4096 (qX l)) (((dQ M64 l || dQ H60 (yN l)) || dQ 3 (yO l)) || nO 4096 (qX l))):=hid hr7
 have E7:=hid (E6.out.kept hk7 NR.out)
 have B7:Hid (Below w.heap.size w w7):=hid (B6.out.trans (hk7.below B6.out.size fun b e=>by have:=HR.out;omega))
 clear hr7 hk7
 obtain ⟨dv,w8,hrun,hB8,hb8,ho8⟩:=mT (P:=Tryz.prog) w7 9 36 5 (fM (fV 4096 (qX l))) Tryz.underlying9 Tryz.underlying36 Tryz.underlying5 (by rw [lG];have:=aA5 4096 (qX l);omega)
 rw [HTX.out] at hB8
 obtain ⟨da,dn,dc,rfl⟩:∃ a n c,dv = .slice a n c:=by obtain ⟨a,c,e,_⟩:=hB8.shape;exact ⟨a,_,c,e⟩
 have E8:=hid (E7.out.below hb8)
 have HB8:=hid hB8
 have R8:=hid (R7.out.below hb8)
 have B8:Hid (Below w.heap.size w w8):=hid (B7.out.trans (hb8.mono B7.out.size))
 have HDO:Hid (∀ b,(Value.slice da dn dc).ownBlock = some b -> w.heap.size <= b):=hid fun b hb=>by rw [ho8] at hb;obtain rfl:=Option.some.inj hb;exact B7.out.size
 have HDN:Hid (∀ b,(Value.slice da dn dc).ownBlock = some b -> b ≠ w.heap.size):=hid fun b hb=>by rw [ho8] at hb;obtain rfl:=Option.some.inj hb;have:=E7.out.lt;omega
 clear hB8 hb8 ho8
 obtain ⟨y0,y1,y2,g0,g1,g2⟩:=E8.out
 go_wp2_with fail
 have E9:Hid (EC (w8.setCell ⟨w.heap.size,2,none⟩ (.slice da dn dc)) w.heap.size (t:Nat) (k:Nat) (.slice da dn dc)):=hid (E8.out.put _)
 have K9:Kept w8 (w8.setCell ⟨w.heap.size,2,none⟩ (.slice da dn dc)) (fun b=>b = w.heap.size):=Kept.setCell w8 ⟨w.heap.size,2,none⟩ _
 clear y0 y1 y2 g0 g1 g2 hrun
 generalize hw9:World.setCell w8 _ _ = w9 at *
 have R9:=hid (R8.out.kept K9 (fun e=>NR.out e.symm) NRB.out)
 have B9:Hid (Below w.heap.size w w9):=hid (B8.out.trans (K9.below B8.out.size fun b e=>by omega))
 have HBD:Hid (Bytes w9 (.slice da dn dc) (lbX l).d):=hid (HB8.out.kept K9 fun b hb e=>HDN.out b hb e)
 have R9d:=hid (R9.out.below ((Below.refl w9.heap.size w9).drew))
 have HBd:Hid (Bytes w9.drew (.slice da dn dc) (fV 4096 (qX l))):=hid (HBD.out.drew)
 have XR:=hid E9.out.cells
 clear hw9 K9 E2 E3 E4 E5 E6 E7 E8 R2 R3 R4 R5 R6 R7 R8 B1 B2 B3 B4 B5 B6 B7 B8 hkw
 by_cases h2:kd = 2
 ·have b2:((kd:Int) == 2) = true:=by rw [h2];rfl
  have H2:=hid h2
  clear h2
  by_cases hq0:q = 0
  ·have bq:((q:Int) == 0) = true:=by rw [hq0];rfl
   have HQ0:=hid hq0
   clear hq0
   by_cases hix:u = ix
   ·have bi:((u:Int) == (ix:Int)) = true:=by rw [hix];simp
    have HV:Hid (decide (kd = 2 /\ lbE l = 0 /\ lbI l = ix /\ (lbX l).ok) = OK):=hid (by rw [<- HOK.out,decide_eq_decide];exact ⟨fun h=>h.2.2.2,fun h=>⟨H2.out,by rw [HQE.out];exact HQ0.out,by rw [HU.out];exact hix,h⟩⟩)
    clear hix
    go_wp2_with fail
    refine aN [0,0,2,6,14,30,62,126,254,510,510,2046,4094,8190,16382,32766,65534,65535,262143] 262112 (fun w'=>w'.cell? ⟨w.heap.size,0,none⟩ = some (.int .u64 (t:Nat)) /\ w'.cell? ⟨w.heap.size,1,none⟩ = some (.int .i64 (k:Nat)) /\ w'.cell? ⟨w.heap.size,2,none⟩ = some (.slice da dn dc)) (by kernel_rfl) ?_
    refine aB [0,1,2,3,4] (by kernel_rfl) (L:=bm 19 31) (by kernel_rfl) (f':=14) rfl (fun _ _ _ _ h=>h) (fun w o h=>(((aP.cell _ _).and ((aP.cell _ _).and (aP.cell _ _))).alloc h o)) (.inr XR.out) ?_
    simp only [sF,sL]
    iterate 5 (first | (refine aQ _ (by rfl) (fun w' hs=>by obtain ⟨y0,y1,y2⟩:=hs;go_simp;try with_reducible rfl) rfl ?_;simp only [Act.put,sA]) | (refine aD _ (by rfl) (fun w'=>by go_simp;try with_reducible rfl) ?_;simp only [Act.put,sA]) | (refine dZ (by rfl) ?_;simp only [Act.put,sA]))
    refine aE ?_
    refine aI 5 (by kernel_rfl) (L:=bm 19 63) (by kernel_rfl) ?_
    simp only [sL]
    go_wp2_with fail;refine (lU _ _ _ _ R9d.out).mono ?_;rintro e u5 ⟨rfl,rfl⟩;rw [HQ.out];go_wp2_with fail
    refine aF (fun _=>XR.out) ?_
    refine aB [6,7,8,9,10,11,12,13,14] (by kernel_rfl) (L:=bm 19 32767) (by kernel_rfl) (f':=4) rfl (fun _ _ _ _ h=>h) (fun w o h=>(((aP.cell _ _).and ((aP.cell _ _).and (aP.cell _ _))).alloc h o)) (.inr (by first | exact XR.out | exact (E9.out.below B10.out).cells)) ?_
    simp only [sF,sL]
    iterate 9 (first | (refine aQ _ (by rfl) (fun w' hs=>by obtain ⟨y0,y1,y2⟩:=hs;go_simp;try with_reducible rfl) rfl ?_;simp only [Act.put,sA]) | (refine aD _ (by rfl) (fun w'=>by go_simp;try with_reducible rfl) ?_;simp only [Act.put,sA]) | (refine dZ (by rfl) ?_;simp only [Act.put,sA]))
    refine aE ?_
    refine aI 15 (by kernel_rfl) (L:=bm 19 65535) (by kernel_rfl) ?_
    simp only [sL]
    go_wp2_with fail;refine (rX (t:Nat) (k:Nat) _ (fV 4096 (qX l)) _ HBd.out).mono ?_;rintro e w10 ⟨rfl,hb10⟩;have B10:Hid (Below w9.heap.size w9 w10):=hid (((Below.refl w9.heap.size w9).drew).trans hb10);clear hb10;rw [HGS.out];go_wp2_with fail
    refine aF (fun _=>(E9.out.below B10.out).cells) ?_
    refine aB [16] (by kernel_rfl) (L:=bm 19 131071) (by kernel_rfl) (f':=2) rfl (fun _ _ _ _ h=>h) (fun w o h=>(((aP.cell _ _).and ((aP.cell _ _).and (aP.cell _ _))).alloc h o)) (.inr (by first | exact XR.out | exact (E9.out.below B10.out).cells)) ?_
    simp only [sF,sL]
    iterate 1 (refine aD _ (by rfl) (fun w'=>by go_simp;try with_reducible rfl) ?_;simp only [Act.put,sA])
    refine aE ?_
    refine aI 17 (by kernel_rfl) (L:=bm 19 262143) (by kernel_rfl) ?_
    simp only [sL]
    have E10:=hid (E9.out.below B10.out);obtain ⟨z0,z1,z2,g0,g1,g2⟩:=E10.out;go_wp2_with fail;generalize hw11:World.setCell (World.setCell (World.setCell _ _ _) _ _) _ _ = w11;have E11:Hid (EC w11 w.heap.size (t:Nat) (k:Nat) (.slice da dn dc)):=hid (by subst hw11;exact E10.out.mB);have B11:Hid (Kept w9 w11 (fun b=>b = w.heap.size)):=hid (by subst hw11;exact (Kept.aJ B10.out (fun k h1 h2=>by omega)).trans (EC.oV _ _ _ _ _));clear hw11 z0 z1 z2 g0 g1 g2
    refine aF (fun _=>E11.out.cells) ?_
    refine aB [18] (by kernel_rfl) (L:=bm 19 524287) (by kernel_rfl) (f':=0) rfl (fun _ _ _ _ h=>h) (fun w o h=>(((aP.cell _ _).and ((aP.cell _ _).and (aP.cell _ _))).alloc h o)) (.inl (by kernel_rfl)) ?_
    simp only [sF,sL]
    iterate 1 (refine aD _ (by rfl) (fun w'=>by go_simp;try with_reducible rfl) ?_;simp only [Act.put,sA])
    refine aE ?_
    refine aT (by kernel_rfl) ?_
    go_wp2_with fail
    obtain ⟨r0,r1,r2,_,_,_⟩:=E11.out
    refine bodyPost_ret (v:=.tuple #[.agg #[.int .u64 (t:Nat),.int .i64 (k:Nat),.slice da dn dc],.bool OK]) (by simp [results,Tryz.results76,go_sem,r0,r1,r2]) rfl ?_
    have BF:Below w.heap.size w w11:=B9.out.trans (B11.out.below B9.out.size fun b e=>by omega)
    refine ⟨.slice da dn dc,by rw [HV.out,HT.out,HK.out],?_,HDO.out,by first | exact BF | exact BF.drew⟩
    have HBF:=HBD.out.kept B11.out fun b hb e=>HDN.out b hb e
    first | exact HBF | exact HBF.drew

   ·have bi:((u:Int) == (ix:Int)) = false:=by simp;omega
    have HV:Hid (decide (kd = 2 /\ lbE l = 0 /\ lbI l = ix /\ (lbX l).ok) = false):=hid (decide_eq_false fun h=>hix (by rw [<- HU.out];exact h.2.2.1))
    clear hix
    go_wp2_with fail
    refine aN [0,0,2,6,14,30,62,126,254,510,510,2046,4094,8190,16382,32766,65534,65535,262143] 262112 (fun w'=>w'.cell? ⟨w.heap.size,0,none⟩ = some (.int .u64 (t:Nat)) /\ w'.cell? ⟨w.heap.size,1,none⟩ = some (.int .i64 (k:Nat)) /\ w'.cell? ⟨w.heap.size,2,none⟩ = some (.slice da dn dc)) (by kernel_rfl) ?_
    refine aB [0,1,2,3,4] (by kernel_rfl) (L:=bm 19 31) (by kernel_rfl) (f':=14) rfl (fun _ _ _ _ h=>h) (fun w o h=>(((aP.cell _ _).and ((aP.cell _ _).and (aP.cell _ _))).alloc h o)) (.inr XR.out) ?_
    simp only [sF,sL]
    iterate 5 (first | (refine aQ _ (by rfl) (fun w' hs=>by obtain ⟨y0,y1,y2⟩:=hs;go_simp;try with_reducible rfl) rfl ?_;simp only [Act.put,sA]) | (refine aD _ (by rfl) (fun w'=>by go_simp;try with_reducible rfl) ?_;simp only [Act.put,sA]) | (refine dZ (by rfl) ?_;simp only [Act.put,sA]))
    refine aE ?_
    refine aI 5 (by kernel_rfl) (L:=bm 19 63) (by kernel_rfl) ?_
    simp only [sL]
    go_wp2_with fail;refine (lU _ _ _ _ R9d.out).mono ?_;rintro e u5 ⟨rfl,rfl⟩;rw [HQ.out];go_wp2_with fail
    refine aF (fun _=>XR.out) ?_
    refine aB [6,7,8,9,10,11,12,13,14] (by kernel_rfl) (L:=bm 19 32767) (by kernel_rfl) (f':=4) rfl (fun _ _ _ _ h=>h) (fun w o h=>(((aP.cell _ _).and ((aP.cell _ _).and (aP.cell _ _))).alloc h o)) (.inr (by first | exact XR.out | exact (E9.out.below B10.out).cells)) ?_
    simp only [sF,sL]
    iterate 9 (first | (refine aQ _ (by rfl) (fun w' hs=>by obtain ⟨y0,y1,y2⟩:=hs;go_simp;try with_reducible rfl) rfl ?_;simp only [Act.put,sA]) | (refine aD _ (by rfl) (fun w'=>by go_simp;try with_reducible rfl) ?_;simp only [Act.put,sA]) | (refine dZ (by rfl) ?_;simp only [Act.put,sA]))
    refine aE ?_
    refine aI 15 (by kernel_rfl) (L:=bm 19 65535) (by kernel_rfl) ?_
    simp only [sL]
    go_wp2_with fail
    refine aF (fun _=>XR.out) ?_
    refine aB [16] (by kernel_rfl) (L:=bm 19 131071) (by kernel_rfl) (f':=2) rfl (fun _ _ _ _ h=>h) (fun w o h=>(((aP.cell _ _).and ((aP.cell _ _).and (aP.cell _ _))).alloc h o)) (.inr (by first | exact XR.out | exact (E9.out.below B10.out).cells)) ?_
    simp only [sF,sL]
    iterate 1 (refine aD _ (by rfl) (fun w'=>by go_simp;try with_reducible rfl) ?_;simp only [Act.put,sA])
    refine aE ?_
    refine aI 17 (by kernel_rfl) (L:=bm 19 262143) (by kernel_rfl) ?_
    simp only [sL]
    have E10:=E9;obtain ⟨z0,z1,z2,g0,g1,g2⟩:=E10.out;go_wp2_with fail;generalize hw11:World.setCell (World.setCell (World.setCell _ _ _) _ _) _ _ = w11;have E11:Hid (EC w11 w.heap.size (t:Nat) (k:Nat) (.slice da dn dc)):=hid (by subst hw11;exact E10.out.mB);have B11:Hid (Kept w9 w11 (fun b=>b = w.heap.size)):=hid (by subst hw11;exact EC.oV _ _ _ _ _);clear hw11 z0 z1 z2 g0 g1 g2
    refine aF (fun _=>E11.out.cells) ?_
    refine aB [18] (by kernel_rfl) (L:=bm 19 524287) (by kernel_rfl) (f':=0) rfl (fun _ _ _ _ h=>h) (fun w o h=>(((aP.cell _ _).and ((aP.cell _ _).and (aP.cell _ _))).alloc h o)) (.inl (by kernel_rfl)) ?_
    simp only [sF,sL]
    iterate 1 (refine aD _ (by rfl) (fun w'=>by go_simp;try with_reducible rfl) ?_;simp only [Act.put,sA])
    refine aE ?_
    refine aT (by kernel_rfl) ?_
    go_wp2_with fail
    obtain ⟨r0,r1,r2,_,_,_⟩:=E11.out
    refine bodyPost_ret (v:=.tuple #[.agg #[.int .u64 (t:Nat),.int .i64 (k:Nat),.slice da dn dc],.bool false]) (by simp [results,Tryz.results76,go_sem,r0,r1,r2]) rfl ?_
    have BF:Below w.heap.size w w11:=B9.out.trans (B11.out.below B9.out.size fun b e=>by omega)
    refine ⟨.slice da dn dc,by rw [HV.out,HT.out,HK.out],?_,HDO.out,by first | exact BF | exact BF.drew⟩
    have HBF:=HBD.out.kept B11.out fun b hb e=>HDN.out b hb e
    first | exact HBF | exact HBF.drew

  ·have bq:((q:Int) == 0) = false:=by simp;omega
   have HV:Hid (decide (kd = 2 /\ lbE l = 0 /\ lbI l = ix /\ (lbX l).ok) = false):=hid (decide_eq_false fun h=>hq0 (by rw [<- HQE.out];exact h.2.1))
   clear hq0
   go_wp2_with fail
   refine aN [0,0,2,6,14,30,62,126,254,510,510,2046,4094,8190,16382,32766,65534,65535,262143] 262112 (fun w'=>w'.cell? ⟨w.heap.size,0,none⟩ = some (.int .u64 (t:Nat)) /\ w'.cell? ⟨w.heap.size,1,none⟩ = some (.int .i64 (k:Nat)) /\ w'.cell? ⟨w.heap.size,2,none⟩ = some (.slice da dn dc)) (by kernel_rfl) ?_
   refine aB [0,1,2,3,4] (by kernel_rfl) (L:=bm 19 31) (by kernel_rfl) (f':=14) rfl (fun _ _ _ _ h=>h) (fun w o h=>(((aP.cell _ _).and ((aP.cell _ _).and (aP.cell _ _))).alloc h o)) (.inr XR.out) ?_
   simp only [sF,sL]
   iterate 5 (first | (refine aQ _ (by rfl) (fun w' hs=>by obtain ⟨y0,y1,y2⟩:=hs;go_simp;try with_reducible rfl) rfl ?_;simp only [Act.put,sA]) | (refine aD _ (by rfl) (fun w'=>by go_simp;try with_reducible rfl) ?_;simp only [Act.put,sA]) | (refine dZ (by rfl) ?_;simp only [Act.put,sA]))
   refine aE ?_
   refine aI 5 (by kernel_rfl) (L:=bm 19 63) (by kernel_rfl) ?_
   simp only [sL]
   go_wp2_with fail;refine (lU _ _ _ _ R9d.out).mono ?_;rintro e u5 ⟨rfl,rfl⟩;rw [HQ.out];go_wp2_with fail
   refine aF (fun _=>XR.out) ?_
   refine aB [6,7,8,9,10,11,12,13,14] (by kernel_rfl) (L:=bm 19 32767) (by kernel_rfl) (f':=4) rfl (fun _ _ _ _ h=>h) (fun w o h=>(((aP.cell _ _).and ((aP.cell _ _).and (aP.cell _ _))).alloc h o)) (.inr (by first | exact XR.out | exact (E9.out.below B10.out).cells)) ?_
   simp only [sF,sL]
   iterate 9 (first | (refine aQ _ (by rfl) (fun w' hs=>by obtain ⟨y0,y1,y2⟩:=hs;go_simp;try with_reducible rfl) rfl ?_;simp only [Act.put,sA]) | (refine aD _ (by rfl) (fun w'=>by go_simp;try with_reducible rfl) ?_;simp only [Act.put,sA]) | (refine dZ (by rfl) ?_;simp only [Act.put,sA]))
   refine aE ?_
   refine aI 15 (by kernel_rfl) (L:=bm 19 65535) (by kernel_rfl) ?_
   simp only [sL]
   go_wp2_with fail
   refine aF (fun _=>XR.out) ?_
   refine aB [16] (by kernel_rfl) (L:=bm 19 131071) (by kernel_rfl) (f':=2) rfl (fun _ _ _ _ h=>h) (fun w o h=>(((aP.cell _ _).and ((aP.cell _ _).and (aP.cell _ _))).alloc h o)) (.inr (by first | exact XR.out | exact (E9.out.below B10.out).cells)) ?_
   simp only [sF,sL]
   iterate 1 (refine aD _ (by rfl) (fun w'=>by go_simp;try with_reducible rfl) ?_;simp only [Act.put,sA])
   refine aE ?_
   refine aI 17 (by kernel_rfl) (L:=bm 19 262143) (by kernel_rfl) ?_
   simp only [sL]
   have E10:=E9;obtain ⟨z0,z1,z2,g0,g1,g2⟩:=E10.out;go_wp2_with fail;generalize hw11:World.setCell (World.setCell (World.setCell _ _ _) _ _) _ _ = w11;have E11:Hid (EC w11 w.heap.size (t:Nat) (k:Nat) (.slice da dn dc)):=hid (by subst hw11;exact E10.out.mB);have B11:Hid (Kept w9 w11 (fun b=>b = w.heap.size)):=hid (by subst hw11;exact EC.oV _ _ _ _ _);clear hw11 z0 z1 z2 g0 g1 g2
   refine aF (fun _=>E11.out.cells) ?_
   refine aB [18] (by kernel_rfl) (L:=bm 19 524287) (by kernel_rfl) (f':=0) rfl (fun _ _ _ _ h=>h) (fun w o h=>(((aP.cell _ _).and ((aP.cell _ _).and (aP.cell _ _))).alloc h o)) (.inl (by kernel_rfl)) ?_
   simp only [sF,sL]
   iterate 1 (refine aD _ (by rfl) (fun w'=>by go_simp;try with_reducible rfl) ?_;simp only [Act.put,sA])
   refine aE ?_
   refine aT (by kernel_rfl) ?_
   go_wp2_with fail
   obtain ⟨r0,r1,r2,_,_,_⟩:=E11.out
   refine bodyPost_ret (v:=.tuple #[.agg #[.int .u64 (t:Nat),.int .i64 (k:Nat),.slice da dn dc],.bool false]) (by simp [results,Tryz.results76,go_sem,r0,r1,r2]) rfl ?_
   have BF:Below w.heap.size w w11:=B9.out.trans (B11.out.below B9.out.size fun b e=>by omega)
   refine ⟨.slice da dn dc,by rw [HV.out,HT.out,HK.out],?_,HDO.out,by first | exact BF | exact BF.drew⟩
   have HBF:=HBD.out.kept B11.out fun b hb e=>HDN.out b hb e
   first | exact HBF | exact HBF.drew

 ·have b2:((kd:Int) == 2) = false:=by simp;omega
  have HV:Hid (decide (kd = 2 /\ lbE l = 0 /\ lbI l = ix /\ (lbX l).ok) = false):=hid (decide_eq_false fun h=>h2 h.1)
  clear h2
  go_wp2_with fail
  refine aN [0,0,2,6,14,30,62,126,254,510,510,2046,4094,8190,16382,32766,65534,65535,262143] 262112 (fun w'=>w'.cell? ⟨w.heap.size,0,none⟩ = some (.int .u64 (t:Nat)) /\ w'.cell? ⟨w.heap.size,1,none⟩ = some (.int .i64 (k:Nat)) /\ w'.cell? ⟨w.heap.size,2,none⟩ = some (.slice da dn dc)) (by kernel_rfl) ?_
  refine aB [0,1,2,3,4] (by kernel_rfl) (L:=bm 19 31) (by kernel_rfl) (f':=14) rfl (fun _ _ _ _ h=>h) (fun w o h=>(((aP.cell _ _).and ((aP.cell _ _).and (aP.cell _ _))).alloc h o)) (.inr XR.out) ?_
  simp only [sF,sL]
  iterate 5 (first | (refine aQ _ (by rfl) (fun w' hs=>by obtain ⟨y0,y1,y2⟩:=hs;go_simp;try with_reducible rfl) rfl ?_;simp only [Act.put,sA]) | (refine aD _ (by rfl) (fun w'=>by go_simp;try with_reducible rfl) ?_;simp only [Act.put,sA]) | (refine dZ (by rfl) ?_;simp only [Act.put,sA]))
  refine aE ?_
  refine aI 5 (by kernel_rfl) (L:=bm 19 63) (by kernel_rfl) ?_
  simp only [sL]
  go_wp2_with fail
  refine aF (fun _=>XR.out) ?_
  refine aB [6,7,8,9,10,11,12,13,14] (by kernel_rfl) (L:=bm 19 32767) (by kernel_rfl) (f':=4) rfl (fun _ _ _ _ h=>h) (fun w o h=>(((aP.cell _ _).and ((aP.cell _ _).and (aP.cell _ _))).alloc h o)) (.inr (by first | exact XR.out | exact (E9.out.below B10.out).cells)) ?_
  simp only [sF,sL]
  iterate 9 (first | (refine aQ _ (by rfl) (fun w' hs=>by obtain ⟨y0,y1,y2⟩:=hs;go_simp;try with_reducible rfl) rfl ?_;simp only [Act.put,sA]) | (refine aD _ (by rfl) (fun w'=>by go_simp;try with_reducible rfl) ?_;simp only [Act.put,sA]) | (refine dZ (by rfl) ?_;simp only [Act.put,sA]))
  refine aE ?_
  refine aI 15 (by kernel_rfl) (L:=bm 19 65535) (by kernel_rfl) ?_
  simp only [sL]
  go_wp2_with fail
  refine aF (fun _=>XR.out) ?_
  refine aB [16] (by kernel_rfl) (L:=bm 19 131071) (by kernel_rfl) (f':=2) rfl (fun _ _ _ _ h=>h) (fun w o h=>(((aP.cell _ _).and ((aP.cell _ _).and (aP.cell _ _))).alloc h o)) (.inr (by first | exact XR.out | exact (E9.out.below B10.out).cells)) ?_
  simp only [sF,sL]
  iterate 1 (refine aD _ (by rfl) (fun w'=>by go_simp;try with_reducible rfl) ?_;simp only [Act.put,sA])
  refine aE ?_
  refine aI 17 (by kernel_rfl) (L:=bm 19 262143) (by kernel_rfl) ?_
  simp only [sL]
  have E10:=E9;obtain ⟨z0,z1,z2,g0,g1,g2⟩:=E10.out;go_wp2_with fail;generalize hw11:World.setCell (World.setCell (World.setCell _ _ _) _ _) _ _ = w11;have E11:Hid (EC w11 w.heap.size (t:Nat) (k:Nat) (.slice da dn dc)):=hid (by subst hw11;exact E10.out.mB);have B11:Hid (Kept w9 w11 (fun b=>b = w.heap.size)):=hid (by subst hw11;exact EC.oV _ _ _ _ _);clear hw11 z0 z1 z2 g0 g1 g2
  refine aF (fun _=>E11.out.cells) ?_
  refine aB [18] (by kernel_rfl) (L:=bm 19 524287) (by kernel_rfl) (f':=0) rfl (fun _ _ _ _ h=>h) (fun w o h=>(((aP.cell _ _).and ((aP.cell _ _).and (aP.cell _ _))).alloc h o)) (.inl (by kernel_rfl)) ?_
  simp only [sF,sL]
  iterate 1 (refine aD _ (by rfl) (fun w'=>by go_simp;try with_reducible rfl) ?_;simp only [Act.put,sA])
  refine aE ?_
  refine aT (by kernel_rfl) ?_
  go_wp2_with fail
  obtain ⟨r0,r1,r2,_,_,_⟩:=E11.out
  refine bodyPost_ret (v:=.tuple #[.agg #[.int .u64 (t:Nat),.int .i64 (k:Nat),.slice da dn dc],.bool false]) (by simp [results,Tryz.results76,go_sem,r0,r1,r2]) rfl ?_
  have BF:Below w.heap.size w w11:=B9.out.trans (B11.out.below B9.out.size fun b e=>by omega)
  refine ⟨.slice da dn dc,by rw [HV.out,HT.out,HK.out],?_,HDO.out,by first | exact BF | exact BF.drew⟩
  have HBF:=HBD.out.kept B11.out fun b hb e=>HDN.out b hb e
  first | exact HBF | exact HBF.drew

theorem aCp (l:bE) (j:Nat) (hj:j < l.length) (u:Value):(aL l).set j (((aL l)[j]'(by rw [aK];exact hj)).set 2 u) = aL (l.set j ((l[j]).1,u)):=by
 unfold aL
 rw [List.map_set,List.getElem_map]
 rfl
structure CpI (w wr:World) (g n c:Nat) (es:List bR) (j:Nat) (el:bE):Prop where
 own:cA wr 38 3 (.slice (some ⟨g,0,none⟩) n c) (aL el)
 es:el.map (·.1) = es
 dat:bM wr (fun _=>False) el
 new:∀ i (h:i < el.length),i < j -> ∀ b,(el[i]).2.ownBlock = some b -> w.heap.size <= b
 bel:Below w.heap.size w wr

set_option maxRecDepth 20000 in
theorem qM (v:Value) (l:bE) (w:World) (h:cS w 3 v (aL l)) (hd:bM w (fun _=>False) l) (hl:l.length <= 2147483648) :
  Calls Tryz.prog 60 #[v] w fun e w'=>∃ v',e = .returned v' /\ ∃ l',cA w' 38 3 v' (aL l') /\ l'.map (·.1) = l.map (·.1) /\ bM w' (fun k=>k < w.heap.size) l' /\ (∀ b,v'.ownBlock = some b -> w.heap.size <= b) /\ Below w.heap.size w w':=by
 have H:=hid h
 have HD:=hid hd
 have HL:=hid hl
 obtain ⟨a,c,rfl,_⟩:=h.shape
 clear h hd
 go_enter Tryz.func60,Tryz.ntmps60
 go_wp2_with fail
 refine (yE _ l w H.out HD.out HL.out).mono ?_
 rintro e w1 ⟨v1,rfl,ho1,hb1,hn1⟩
 have O1:=hid ho1
 have B1:=hid hb1
 have N1:=hid hn1
 have D1:Hid (bM w1 (fun _=>False) l):=hid (HD.out.kept (Kept.aJ hb1 (S:=fun _=>False) fun k h1 h2=>by omega) fun _ h=>h)
 obtain ⟨n,hn⟩:∃ n,l.length = n:=⟨_,rfl⟩
 have HN:=hid hn
 obtain ⟨a1,c1,rfl,hc1⟩:=ho1.shape
 rw [aK,hn] at O1 N1 hc1 ⊢
 have hn':(n:Int) <= 2147483648:=by omega
 clear ho1 hb1 hn1 hl hn
 by_cases h0:n = 0
 ·have hl0:l = []:=List.eq_nil_of_length_eq_zero (HN.out.trans h0)
  subst hl0
  have hn0:(n:Int) = 0:=by omega
  have HZ:=hid h0
  clear h0 hn'
  go_wp2_with fail
  refine wp_loop_rounds 1 ?_
  rw [rounds_succ]
  go_wp2_with fail
  go_ret
  exact ⟨_,rfl,[],by have h:=O1.out;exact h,rfl,nofun,N1.out,B1.out⟩
 ·obtain ⟨g,c',hv,hc,hg⟩:=cA.some O1.out (by intro e;have:=congrArg List.length e;rw [aK] at this;simp at this;exact h0 (by rw [<- HN.out,this];rfl))
  obtain ⟨hv1,hv2,hv3⟩:=Value.slice.inj hv
  subst hv1 hv3
  clear hv2
  have I0:Hid (CpI w w1 g n c1 (l.map (·.1)) 0 l):=hid ⟨O1.out,rfl,D1.out,fun i _ h=>absurd h (Nat.not_lt_zero i),B1.out⟩
  have NG:Hid (w.heap.size <= g):=hid (N1.out g rfl)
  clear h0 hv hc hg O1 N1 D1
  go_wp2_with fail
  go_loopw [4,9] (fun _ y wr=>∃ (j:Nat) (el:bE),j <= n /\ y = .int .i64 j /\ el.length = n /\ CpI w wr g n c1 (l.map (·.1)) j el) (fun _ y _=>n - (intOf y).toNat)
  case atStart=>exact ⟨0,l,Nat.zero_le _,rfl,HN.out,I0.out⟩
  case round =>
   obtain ⟨j,el,hj,rfl,hel,hI⟩:=hrel
   have HI:=hid hI
   have HE:=hid hel
   clear hI hel
   by_cases hlt:j < n
   ·have hje:j < el.length:=by rw [HE.out];exact hlt
    obtain ⟨p,hp⟩:∃ p,el[j] = p:=⟨_,rfl⟩
    have hpm:p ∈ el:=hp ▸ List.getElem_mem hje
    obtain ⟨hpB,hpf,_⟩:=HI.out.dat p hpm
    have HPB:=hid hpB
    have HPF:=hid hpf
    have q2:wr.cell? ⟨g,j * 3 + 2,none⟩ = some p.2:=by
     have h1:=HI.out.own.flat (j * 3 + 2) p.2 (nT HI.out.own.each (by rw [aK];exact hje) (by simp [aL,hp,fZ]))
     rwa [Addr.add_lit,Nat.zero_add] at h1
    have f2:=cA.lW HI.out.own (j * 3 + 2)
    obtain ⟨e0,pv⟩:=p
    simp only at q2 HPB
    obtain ⟨pa,pc,rfl,_⟩:=HPB.out.shape
    have HP:=hid (show ∃ h:j < el.length,el[j] = (e0,Value.slice pa e0.d.length pc) from ⟨hje,hp⟩)
    have j0:(0:Int) <= (j:Int):=by omega
    have j1:(j:Int) < (n:Int):=by omega
    have HDL:Hid ((ints e0.d).length <= 2097152):=hid (by rw [aX];exact HPB.out.small)
    clear hp hpm hpB hpf hje
    go_wp2_with fail
    refine (pF _ _ wr HPB.out.rd HDL.out).mono ?_
    rintro e w2 ⟨v2,rfl,ho2,hb2⟩
    have B2:=hid hb2
    have NB2:Hid (∀ b,v2.ownBlock = some b -> wr.heap.size <= b):=hid fun b hb=>(ho2.lt b hb).1
    have HB2:Hid (Bytes w2 v2 e0.d):=hid (Bytes.eE ho2 HPB.out.lt HPB.out.small)
    obtain ⟨a2,n2,c2,rfl⟩:∃ a n c,v2 = Value.slice a n c:=by obtain ⟨a,c,e⟩:=ho2.shape;exact ⟨a,_,c,e⟩
    have OW2:=hid (HI.out.own.below hb2)
    have DW2:Hid (bM w2 (fun _=>False) el):=hid (HI.out.dat.kept (Kept.aJ hb2 (S:=fun _=>False) fun k h1 h2=>by omega) fun _ h=>h)
    have hgl:g < wr.heap.size:=HI.out.own.lt g rfl
    have z2:w2.cell? ⟨g,j * 3 + 2,none⟩ = some (.slice pa e0.d.length pc):=Below.at hb2 q2 hgl
    have y2:w2.frozen? ⟨g,j * 3 + 2,none⟩ = false:=by rw [hb2.frozen (p:=⟨g,j * 3 + 2,none⟩) hgl];exact f2
    clear ho2 hb2 q2 f2
    go_wp2_with fail
    go_roundw
    case rel =>
     obtain ⟨hje,hp⟩:=HP.out
     have hk:Kept w2 (w2.setCell ⟨g,j * 3 + 2,none⟩ (.slice a2 n2 c2)) (fun k=>k = g):=Kept.setCell w2 ⟨g,j * 3 + 2,none⟩ _
     have hnb:NoB w2 (fun k=>k = g):=fun k hk2=>fL OW2.out k (by rw [hk2];rfl)
     have hs:=OW2.out.stored (k:=j) (i:=2) (by rw [aK];exact hje) (by decide) (u:=.slice a2 n2 c2) (fun x e=>by cases e)
     rw [aCp el j hje,hp] at hs
     refine ⟨j + 1,el.set j (e0,.slice a2 n2 c2),by omega,by go_num,by rw [List.length_set];exact HE.out,hs,?_,?_,?_,?_⟩
     ·rw [List.map_set]
      have:(el.map (·.1))[j]'(by rw [List.length_map];exact hje) = e0:=by rw [List.getElem_map,hp]
      conv=>lhs;arg 3;rw [<- this]
      rw [List.set_getElem_self]
      exact HI.out.es
     ·intro q hq
      rcases List.mem_or_eq_of_mem_set hq with hq | rfl
      ·obtain ⟨h1,h2,_⟩:=DW2.out q hq
       exact ⟨h1.dT hk hnb,h2,fun _ _ h=>h⟩
      ·exact ⟨HB2.out.dT hk hnb,HPF.out,fun _ _ h=>h⟩
     ·intro i hi hij b hb
      rw [List.length_set] at hi
      by_cases e:i = j
      ·subst e
       rw [List.getElem_set_self] at hb
       exact Nat.le_trans HI.out.bel.size (NB2.out b hb)
      ·rw [List.getElem_set_ne (fun h=>e h.symm)] at hb
       exact HI.out.new i hi (by omega) b hb
     ·exact (HI.out.bel.trans (B2.out.mono HI.out.bel.size)).setCell NG.out _
    case measure=>simp [intOf];omega
   ·have z0:¬ (j:Int) < (n:Int):=by omega
    have hjn:j = n:=by omega
    have HJN:=hid hjn
    clear hjn hlt
    go_wp2_with fail
    go_ret
    refine ⟨_,rfl,el,HI.out.own,HI.out.es,fun q hq=>?_,fun b hb=>by obtain rfl:=Option.some.inj hb;exact NG.out,HI.out.bel⟩
    obtain ⟨h1,h2,_⟩:=HI.out.dat q hq
    refine ⟨h1,h2,fun b hb hlt=>?_⟩
    obtain ⟨i,hi,rfl⟩:=List.getElem_of_mem hq
    have:=HI.out.new i hi (by rw [HJN.out,<- HE.out];exact hi) b hb
    omega

def rJ (a b:bR):Bool:=decide (a.t = b.t) && (decide (a.k = b.k) && decide (a.d = b.d))
theorem aAW (a b:bR):rJ a b = true ↔ a = b:=by
 unfold rJ
 obtain ⟨t,k,d⟩:=a
 obtain ⟨t',k',d'⟩:=b
 simp
set_option maxRecDepth 20000 in
theorem aJ7 (a b:bR) (av bv:Value) (w:World) (ha:Bytes w av a.d) (hb:Bytes w bv b.d) :
  Calls Tryz.prog 78 #[.agg #[.int .u64 a.t,.int .i64 a.k,av],.agg #[.int .u64 b.t,.int .i64 b.k,bv]] w fun e w'=>e = .returned (.bool (rJ a b)) /\ Below w.heap.size w w':=by
 have HA:=hid ha
 have HB:=hid hb
 obtain ⟨t,k,d⟩:=a
 obtain ⟨t',k',d'⟩:=b
 simp only at HA HB ha hb ⊢
 obtain ⟨aa,ac,rfl,_⟩:=ha.shape
 obtain ⟨ba,bc,rfl,_⟩:=hb.shape
 have B2:Hid (Below w.heap.size w ((w.alloc (.cells #[.int .u64 t,.int .i64 k,.slice aa d.length ac] 38)).alloc (.cells #[.int .u64 t',.int .i64 k',.slice ba d'.length bc] 38))):=hid (((Below.refl _ _).alloc (Nat.le_refl _) _).alloc (by simp) _)
 clear ha hb
 by_cases ht:t = t'
 ·subst ht
  by_cases hk:k = k'
  ·subst hk
   have HV:Hid (rJ ⟨t,k,d⟩ ⟨t,k,d'⟩ = decide (d = d')):=hid (by unfold rJ;simp)
   go_enter Tryz.func78,Tryz.ntmps78
   go_wp2_with fail
   refine (aIX _ _ d d' _ (HA.out.below B2.out) (HB.out.below B2.out)).mono ?_
   rintro e w1 ⟨rfl,rfl⟩
   obtain ⟨r,hr⟩:∃ r,decide (d = d') = r:=⟨_,rfl⟩
   have HR:=hid hr
   rw [hr]
   clear hr
   go_wp2_with fail
   go_ret
   rw [HV.out,HR.out]
   exact ⟨rfl,B2.out⟩
  ·have hkb:(k == k') = false:=beq_eq_false_iff_ne.2 hk
   have HV:Hid (rJ ⟨t,k,d⟩ ⟨t,k',d'⟩ = false):=hid (by unfold rJ;simp [hk])
   clear hk
   go_enter Tryz.func78,Tryz.ntmps78
   go_wp2_with fail
   go_ret
   rw [HV.out]
   exact ⟨rfl,B2.out⟩
 ·have htb:(t == t') = false:=beq_eq_false_iff_ne.2 ht
  have HV:Hid (rJ ⟨t,k,d⟩ ⟨t',k',d'⟩ = false):=hid (by unfold rJ;simp [ht])
  clear ht
  go_enter Tryz.func78,Tryz.ntmps78
  go_wp2_with fail
  go_ret
  rw [HV.out]
  exact ⟨rfl,B2.out⟩

def aJG (l1 l2:bE) (w:World):Ending -> World -> Prop:=fun e w'=>∃ r,e = .returned (.bool r) /\ (r = true ↔ l1.map (·.1) = l2.map (·.1)) /\ Below w.heap.size w w'
set_option maxRecDepth 20000 in
theorem aJ5 {v1 v2:Value} {l1 l2:bE} {w:World} (h1:cS w 3 v1 (aL l1)) (d1:bM w (fun _=>False) l1) (h2:cS w 3 v2 (aL l2)) (d2:bM w (fun _=>False) l2) (hn1:l1.length <= 2147483648) (hn2:l2.length <= 2147483648) :
  Calls Tryz.prog 77 #[v1,v2,.func (.func 78) #[] #[]] w (aJG l1 l2 w):=by
 have H1:=hid h1
 have H2:=hid h2
 have D1:=hid d1
 have D2:=hid d2
 obtain ⟨a1,c1,rfl,_⟩:=h1.shape
 obtain ⟨a2,c2,rfl,_⟩:=h2.shape
 obtain ⟨n,hn⟩:∃ n,l1.length = n:=⟨_,rfl⟩
 obtain ⟨m,hm⟩:∃ m,l2.length = m:=⟨_,rfl⟩
 have HN:=hid hn
 have HM:=hid hm
 rw [aK,hn] at H1 ⊢
 rw [aK,hm] at H2 ⊢
 have hn':(n:Int) <= 2147483648:=by omega
 have hm':(m:Int) <= 2147483648:=by omega
 clear h1 h2 d1 d2 hn1 hn2 hn hm
 by_cases hnm:n = m
 ·have bq:((n:Int) != (m:Int)) = false:=by rw [hnm];simp
  have HNM:=hid hnm
  clear hnm
  go_enter Tryz.func77,Tryz.ntmps77
  go_wp2_with fail
  clear bq
  go_loopw [7,8,9,17] (fun _ _ _ y wr=>∃ j:Nat,j <= n /\ y = .int .i64 j /\ (l1.map (·.1)).take j = (l2.map (·.1)).take j /\ Below w.heap.size w wr) (fun _ _ _ y _=>n - (intOf y).toNat)
  case atStart=>exact ⟨0,Nat.zero_le _,rfl,by simp,Below.refl _ _⟩
  case round =>
   obtain ⟨j,hj,rfl,htk,hb⟩:=hrel
   have HTK:=hid htk
   have HB:=hid hb
   clear htk hb
   by_cases hlt:j < n
   ·have hj1:j < l1.length:=by rw [HN.out];exact hlt
    have hj2:j < l2.length:=by rw [HM.out,<- HNM.out];exact hlt
    obtain ⟨p,hp⟩:∃ p,l1[j] = p:=⟨_,rfl⟩
    obtain ⟨q,hq⟩:∃ q,l2[j] = q:=⟨_,rfl⟩
    have HPB:=hid ((D1.out p (hp ▸ List.getElem_mem hj1)).1.below HB.out)
    have HQB:=hid ((D2.out q (hq ▸ List.getElem_mem hj2)).1.below HB.out)
    have r1:(aL l1)[j]'(by rw [aK];exact hj1) = fZ p:=by simp [aL,hp]
    have r2:(aL l2)[j]'(by rw [aK];exact hj2) = fZ q:=by simp [aL,hq]
    obtain ⟨b1,o1,rfl,g1,hc1⟩:=H1.out.at (j:=j) (by rw [aK];exact hj1)
    obtain ⟨b2,o2,rfl,g2,hc2⟩:=H2.out.at (j:=j) (by rw [aK];exact hj2)
    rw [r1] at hc1
    rw [r2] at hc2
    have x0:wr.cell? ⟨b1,o1 + j * 3,none⟩ = some (.int .u64 p.1.t):=Below.at HB.out (hc1 0 _ rfl) g1
    have x1:=Below.at HB.out (hc1 1 _ rfl) g1
    have x2:=Below.at HB.out (hc1 2 _ rfl) g1
    have y0:wr.cell? ⟨b2,o2 + j * 3,none⟩ = some (.int .u64 q.1.t):=Below.at HB.out (hc2 0 _ rfl) g2
    have y1:=Below.at HB.out (hc2 1 _ rfl) g2
    have y2:=Below.at HB.out (hc2 2 _ rfl) g2
    have HT1:Hid ((l1.map (·.1)).take (j + 1) = (l1.map (·.1)).take j ++ [p.1]):=hid (by rw [List.take_succ_eq_append_getElem (by rw [List.length_map];exact hj1),List.getElem_map,hp])
    have HT2:Hid ((l2.map (·.1)).take (j + 1) = (l2.map (·.1)).take j ++ [q.1]):=hid (by rw [List.take_succ_eq_append_getElem (by rw [List.length_map];exact hj2),List.getElem_map,hq])
    obtain ⟨pe,pv⟩:=p
    obtain ⟨qe,qv⟩:=q
    simp only at x0 x1 x2 y0 y1 y2 HPB HQB HT1 HT2
    obtain ⟨pa,pc,rfl,_⟩:=HPB.out.shape
    obtain ⟨qa,qc,rfl,_⟩:=HQB.out.shape
    obtain ⟨r,hr⟩:∃ r,rJ pe qe = r:=⟨_,rfl⟩
    have HR:=hid hr
    have j0:(0:Int) <= (j:Int):=by omega
    have j1:(j:Int) < (n:Int):=by omega
    have j2:(j:Int) < (m:Int):=by have:=HNM.out;omega
    have hb1:b1 < wr.heap.size:=World.block_lt_of_cell? _ _ x0
    have hb2:b2 < wr.heap.size:=World.block_lt_of_cell? _ _ y0
    clear hp hq r1 r2 hc1 hc2 hr g1 g2 hj1 hj2
    go_wp2_with fail
    generalize hwa:World.alloc (World.alloc wr _) _ = wa
    have BA:Hid (Below wr.heap.size wr wa):=hid (by subst hwa;exact ((Below.refl _ _).alloc (Nat.le_refl _) _).alloc (by simp) _)
    clear hwa
    refine (aJ7 pe qe _ _ wa (HPB.out.below BA.out) (HQB.out.below BA.out)).mono ?_
    rintro e w1 ⟨rfl,hbb⟩
    rw [HR.out]
    have B1:Hid (Below w.heap.size w w1):=hid (HB.out.trans ((BA.out.trans (hbb.mono BA.out.size)).mono HB.out.size))
    clear hbb x0 x1 x2 y0 y1 y2
    cases r with
    | true =>
     have HE:Hid (pe = qe):=hid ((aAW pe qe).1 HR.out)
     go_wp2_with fail
     go_roundw
     case rel=>exact ⟨j + 1,by omega,by go_num,by rw [HT1.out,HT2.out,HTK.out,HE.out],B1.out⟩
     case measure=>simp [intOf];omega
    | false =>
     have HNE:Hid (¬ l1.map (·.1) = l2.map (·.1)):=hid (fun h=>by
      have h1:=HT1.out
      have h2:=HT2.out
      rw [h] at h1
      rw [h1] at h2
      have h3:=List.append_inj_right h2 rfl
      have h4:=(aAW pe qe).2 (List.singleton_inj.1 h3)
      rw [HR.out] at h4
      cases h4)
     go_wp2_with fail
     go_ret
     exact ⟨false,rfl,⟨fun h=>(by cases h),fun h=>absurd h HNE.out⟩,B1.out⟩
   ·have hjn:j = n:=by omega
    have HE:Hid (l1.map (·.1) = l2.map (·.1)):=hid (by
     have h:=HTK.out
     rw [List.take_of_length_le (by rw [List.length_map,HN.out,hjn];exact Nat.le_refl _),List.take_of_length_le (by rw [List.length_map,HM.out,hjn,HNM.out];exact Nat.le_refl _)] at h
     exact h)
    have z0:¬ (j:Int) < (n:Int):=by omega
    clear hlt hjn
    go_wp2_with fail
    go_ret
    exact ⟨true,rfl,⟨fun _=>HE.out,fun _=>rfl⟩,HB.out⟩
 ·have bq:((n:Int) != (m:Int)) = true:=by simp;omega
  have HNE:Hid (¬ l1.map (·.1) = l2.map (·.1)):=hid (fun h=>hnm (by rw [<- HN.out,<- HM.out,<- List.length_map (f:=fun x:bR × Value=>x.1),h,List.length_map]))
  clear hnm
  go_enter Tryz.func77,Tryz.ntmps77
  go_wp2_with fail
  go_ret
  exact ⟨false,rfl,⟨fun h=>(by cases h),fun h=>absurd h HNE.out⟩,Below.refl _ _⟩
theorem aAF {v1 v2:Value} {l1 l2:bE} {w:World} (h1:cS w 3 v1 (aL l1)) (d1:bM w (fun _=>False) l1) (h2:cS w 3 v2 (aL l2)) (d2:bM w (fun _=>False) l2) (hn1:l1.length <= 2147483648) (hn2:l2.length <= 2147483648) :
  Calls Tryz.prog 26 #[v1,v2] w (aJG l1 l2 w):=by
 have H:=hid (aJ5 h1 d1 h2 d2 hn1 hn2)
 obtain ⟨a1,c1,rfl,_⟩:=h1.shape
 obtain ⟨a2,c2,rfl,_⟩:=h2.shape
 clear h1 h2 d1 d2 hn1 hn2
 generalize (aL l1).length = n at *
 generalize (aL l2).length = m at *
 go_enter Tryz.func26,Tryz.ntmps26
 go_wp2_with fail
 refine H.out.mono ?_
 rintro e w1 ⟨r,rfl,hr,hb⟩
 have HR:=hid hr
 have HB:=hid hb
 clear hr hb
 go_wp2_with fail
 go_ret
 exact ⟨r,rfl,HR.out,HB.out⟩
end Go.Proofs.YtjdglpcnkiioeaaGreat
