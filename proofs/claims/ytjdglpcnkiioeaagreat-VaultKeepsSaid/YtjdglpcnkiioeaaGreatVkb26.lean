/- Several texts in one: Vo, Vop, Vw, Vk for vltkeeps_law_holds. No conditions but those stated. -/
import Derived.Test.YtjdglpcnkiioeaaGreatVkb18
import Derived.Test.YtjdglpcnkiioeaaGreatVkb22
set_option maxHeartbeats 16000000
namespace Go.Proofs.YtjdglpcnkiioeaaGreat
open Go.Lib (hid)
open Go.RowKit Go.Maps Go.Proofs.Own

structure SC (W:World) (b:Nat) (t v:Int):Prop where
 c0:W.cell? ⟨b,0,none⟩ = some (.int .u64 t)
 c1:W.cell? ⟨b,1,none⟩ = some (.int .i64 v)
 f0:W.frozen? ⟨b,0,none⟩ = false
 f1:W.frozen? ⟨b,1,none⟩ = false
theorem SC.lt {W:World} {b:Nat} {t v:Int} (h:SC W b t v):b < W.heap.size:=World.block_lt_of_cell? _ _ h.c0
theorem SC.kept {W W':World} {b:Nat} {t v:Int} {S:Nat -> Prop} (h:SC W b t v) (hk:Kept W W' S) (hs:¬ S b):SC W' b t v :=
 ⟨hk.cell h.c0 hs,hk.cell h.c1 hs,(hk.frozen (a:=⟨b,0,none⟩) h.lt hs).trans h.f0,(hk.frozen (a:=⟨b,1,none⟩) h.lt hs).trans h.f1⟩
theorem SC.below {W W':World} {b:Nat} {t v:Int} (h:SC W b t v) (hb:Below W.heap.size W W'):SC W' b t v :=
 h.kept (Kept.aJ hb (S:=fun _=>False) fun k h1 h2=>by omega) fun h=>h
theorem SC.box (w:World) (t v:Int):SC (w.alloc (.cells #[.int .u64 t,.int .i64 v] 97)) w.heap.size t v:=⟨by go_cell,by go_cell,by simp,by simp⟩
theorem SC.set {W:World} {b:Nat} {t v:Int} (h:SC W b t v) (t' v':Int):SC ((W.setCell ⟨b,0,none⟩ (.int .u64 t')).setCell ⟨b,1,none⟩ (.int .i64 v')) b t' v':=by
 refine ⟨?_,?_,?_,?_⟩
 ·rw [World.cell?_setCell_other _ _ _ _ (by simp)]
  exact World.cell?_setCell_same _ _ _ h.c0
 ·exact World.cell?_setCell_same _ _ _ (by rw [World.cell?_setCell_other _ _ _ _ (by simp)];exact h.c1)
 ·rw [World.frozen?_setCell,World.frozen?_setCell];exact h.f0
 ·rw [World.frozen?_setCell,World.frozen?_setCell];exact h.f1
theorem Kept.kV (W:World) (b:Nat) (x y:Value):Kept W ((W.setCell ⟨b,0,none⟩ x).setCell ⟨b,1,none⟩ y) (fun k=>k = b):=(Kept.setCell W ⟨b,0,none⟩ x).trans (Kept.setCell _ ⟨b,1,none⟩ y)
theorem aG.sc {W:World} {db mb tb b:Nat} {D:aA} {t v:Int} (h:aG W db mb tb D) (s:SC W b t v) (hn:¬ bB db mb tb b) (t' v':Int):aG ((W.setCell ⟨b,0,none⟩ (.int .u64 t')).setCell ⟨b,1,none⟩ (.int .i64 v')) db mb tb D :=
 (h.setOther (p:=⟨b,0,none⟩) _ hn (fun x e=>by rw [s.c0] at e;cases e)).setOther (p:=⟨b,1,none⟩) _ hn (fun x e=>by rw [World.cell?_setCell_other _ _ _ _ (by simp),s.c1] at e;cases e)

theorem aCE:∀ n l (s:mC),(lastF n l s).g <= s.g + l.length
 | 0,_,s=>Nat.le_add_right _ _
 | n + 1,l,s=>by
  unfold lastF
  split
  ·rename_i h
   have h1:=aCE n (nU l) ⟨vT l,(vV l:Int) - 1,s.g + (aU l).length + 8⟩
   have h2:=(kL h.1).2.2
   simp only at h1
   omega
  ·exact Nat.le_add_right _ _
theorem aHW (l:List Nat):(fX l).g <= l.length:=by
 have:=aCE l.length l ⟨0,-1,0⟩
 unfold fX
 simpa using this
theorem aW.cut {D:aA} (h:aW D) (n:ByteArray) (k:Int) (hs:D.steps + 1 <= 1000000000):aW (cutD D n k).1 /\ (cutD D n k).1.steps <= D.steps + 1:=by
 unfold cutD
 cases e:aC n D.files with
 | none=>exact ⟨h,by simp only;omega⟩
 | some f =>
  simp only
  split
  ·exact ⟨h,by simp only;omega⟩
  ·split
   ·exact ⟨h,by simp only;omega⟩
   ·split
    ·exact ⟨h.step hs,by simp only;rw [eN];omega⟩
    ·obtain ⟨e1,e2⟩:=cF e
     have e3:=gY e
     have e4:=h.wf.each f e2
     refine ⟨h.qV hs _ ?_ ?_ ?_,by simp only;rw [eN];omega⟩
     ·unfold bL;rw [lJ];simp only [List.length_take];rw [e1];have:=h.tot;omega
     ·unfold bL;rw [gS];simp only;rw [e1];have:=h.few;omega
     ·intro g hg
      rcases qR.1 hg with rfl | ⟨hg,_⟩
      ·exact ⟨e4.1,by simp only [List.length_take];omega⟩
      ·exact h.wf.each g hg

def iF (D:aA):mC:=if bG D bO = 31 then ⟨0,-1,0⟩ else if bG D bO ≠ 0 then ⟨0,0,0⟩ else fX (bT D bO).all
def eF (D:aA):aA × Nat:=if (fX (bT D bO).all).g < (bT D bO).all.length then cutD D bO (fX (bT D bO).all).g else (D,0)
def eK (D:aA):aA × Nat :=
 if bG D bO = 31 then (D,0) else if bG D bO ≠ 0 then (D,bG D bO) else if (eF D).2 ≠ 0 then eF D else syncD (eF D).1 bO
def lM (db mb tb:Nat) (D:aA) (w:World):Ending -> World -> Prop:=fun e w' =>
 e = .returned (.tuple #[.agg #[.int .u64 (iF D).t,.int .i64 (iF D).v],.int .i64 (eK D).2]) /\ aG w' db mb tb (eK D).1 /\ Kept w w' (bB db mb tb)

set_option maxRecDepth 20000 in
theorem aEN (db mb tb:Nat) (D:aA) (w:World) (hd:aG w db mb tb D) (hf:bG D bO ≠ 0) :
  Calls Tryz.prog 145 #[.pointer (some ⟨db,0,none⟩)] w (lM db mb tb D w):=by
 have HD:=hid hd
 have HF:=hid hf
 obtain ⟨k,hk⟩:∃ k,bG D bO = k:=⟨_,rfl⟩
 have HK:=hid hk
 have HV:Hid (iF D = (if k = 31 then ⟨0,-1,0⟩ else ⟨0,0,0⟩) /\ eK D = (D,if k = 31 then 0 else k)):=hid (by
  unfold iF eK
  rw [hk]
  rw [hk] at hf
  by_cases h:k = 31
  ·rw [if_pos h,if_pos h,if_pos h,if_pos h];exact ⟨rfl,rfl⟩
  ·rw [if_neg h,if_neg h,if_neg h,if_neg h,if_pos hf,if_pos hf];exact ⟨rfl,rfl⟩)
 clear hd hf hk
 unfold lM
 rw [HV.out.1,HV.out.2]
 by_cases h31:k = 31
 ·subst h31
  go_enter Tryz.func145,Tryz.ntmps145
  go_wp2_with fail
  have S0:=hid (SC.box w 0 0)
  have B0:Hid (Below w.heap.size w (w.alloc (.cells #[.int .u64 0,.int .i64 0] 97))):=hid ((Below.refl _ _).alloc (Nat.le_refl _) _)
  generalize World.alloc w _ = w1 at *
  refine (iZ db mb tb D bO w1 (HD.out.below B0.out) (by decide) HF.out).mono ?_
  rintro e w2 ⟨rfl,hb2⟩
  rw [HK.out]
  have S2:=hid (S0.out.below hb2)
  have B2:Hid (Below w.heap.size w w2):=hid (B0.out.trans (hb2.mono B0.out.size))
  clear hb2
  obtain ⟨x0,x1,g0,g1⟩:=S2.out
  go_wp2_with fail
  have S3:=hid (S2.out.set 0 (-1))
  have B3:=hid (B2.out.trans ((Kept.kV w2 w.heap.size (.int .u64 0) (.int .i64 (-1))).below B2.out.size (fun k h=>by omega)))
  generalize World.setCell _ _ _ = w3 at *
  obtain ⟨y0,y1,_,_⟩:=S3.out
  refine bodyPost_ret (v:=.tuple #[.agg #[.int .u64 0,.int .i64 (-1)],.int .i64 0]) (by simp [results,Tryz.results145,go_sem,y0,y1]) rfl ?_
  exact ⟨rfl,HD.out.below B3.out,Kept.bY B3.out⟩
 ·have h31b:((k:Int) == 31) = false:=by simp;omega
  have h0b:((k:Int) != 0) = true:=by have:=HF.out;rw [HK.out] at this;simp;omega
  have HN:=hid h31
  clear h31
  go_enter Tryz.func145,Tryz.ntmps145
  go_wp2_with fail
  have S0:=hid (SC.box w 0 0)
  have B0:Hid (Below w.heap.size w (w.alloc (.cells #[.int .u64 0,.int .i64 0] 97))):=hid ((Below.refl _ _).alloc (Nat.le_refl _) _)
  generalize World.alloc w _ = w1 at *
  refine (iZ db mb tb D bO w1 (HD.out.below B0.out) (by decide) HF.out).mono ?_
  rintro e w2 ⟨rfl,hb2⟩
  rw [HK.out]
  have S2:=hid (S0.out.below hb2)
  have B2:Hid (Below w.heap.size w w2):=hid (B0.out.trans (hb2.mono B0.out.size))
  clear hb2
  obtain ⟨x0,x1,g0,g1⟩:=S2.out
  go_wp2_with fail
  have S3:=hid (S2.out.set 0 0)
  have B3:=hid (B2.out.trans ((Kept.kV w2 w.heap.size (.int .u64 0) (.int .i64 0)).below B2.out.size (fun k h=>by omega)))
  generalize World.setCell _ _ _ = w3 at *
  obtain ⟨y0,y1,_,_⟩:=S3.out
  refine bodyPost_ret (v:=.tuple #[.agg #[.int .u64 0,.int .i64 0],.int .i64 k]) (by simp [results,Tryz.results145,go_sem,y0,y1]) rfl ?_
  exact ⟨rfl,HD.out.below B3.out,Kept.bY B3.out⟩

set_option maxRecDepth 20000 in
theorem aDl (db mb tb:Nat) (D:aA) (w:World) (hd:aG w db mb tb D) (hw:aW D) (hs:D.steps + 1 <= 1000000000) (hf:bG D bO = 0) :
  Calls Tryz.prog 145 #[.pointer (some ⟨db,0,none⟩)] w (lM db mb tb D w):=by
 obtain ⟨hdn,f,hfi⟩:=pJ hf
 have HD:=hid hd
 have HF:=hid hfi
 have HDN:=hid hdn
 have HW:=hid hw
 have H3:=hid hd.lt3
 have HG:Hid (bT D bO = f):=hid (by unfold bT;rw [hfi];rfl)
 have HV:Hid (iF D = fX f.all /\ eF D = (if (fX f.all).g < f.all.length then cutD D bO (fX f.all).g else (D,0)) /\ eK D = if (eF D).2 ≠ 0 then eF D else syncD (eF D).1 bO):=hid (by
  have h1:iF D = fX (bT D bO).all:=by
   unfold iF
   rw [hf,if_neg (by decide),if_neg (by decide)]
  have h2:eK D = if (eF D).2 ≠ 0 then eF D else syncD (eF D).1 bO:=by
   unfold eK
   rw [hf,if_neg (by decide),if_neg (by decide)]
  refine ⟨by rw [h1,HG.out],?_,h2⟩
  unfold eF
  rw [HG.out])
 have HGW:Hid (aW (cutD D bO (fX f.all).g).1):=hid (hw.cut bO _ hs).1
 clear hd hf hfi hdn hw
 unfold lM
 go_enter Tryz.func145,Tryz.ntmps145
 go_wp2_with fail
 have S0:=hid (SC.box w 0 0)
 have B0:Hid (Below w.heap.size w (w.alloc (.cells #[.int .u64 0,.int .i64 0] 97))):=hid ((Below.refl _ _).alloc (Nat.le_refl _) _)
 generalize World.alloc w _ = w1 at *
 refine (kI db mb tb D bO f w1 (HD.out.below B0.out) HDN.out (by decide) HF.out).mono ?_
 rintro e w2 ⟨v,rfl,hB2,hb2⟩
 have S2:=hid (S0.out.below hb2)
 have B2:Hid (Below w.heap.size w w2):=hid (B0.out.trans (hb2.mono B0.out.size))
 obtain ⟨a,c,rfl,_⟩:=hB2.shape
 have HB2:=hid hB2
 clear hb2 hB2
 go_wp2_with fail
 refine (aG4 _ f.all w2 HB2.out).mono ?_
 rintro e w3 ⟨rfl,hb3⟩
 have S3:=hid (S2.out.below hb3)
 have B3:Hid (Below w.heap.size w w3):=hid (B2.out.trans (hb3.mono B2.out.size))
 have HLE:Hid ((fX f.all).g <= f.all.length):=hid (aHW _)
 clear hb3
 generalize fX f.all = s at *
 obtain ⟨t,u,g⟩:=s
 generalize f.all.length = len at *
 simp only at *
 have L3:w.heap.size < w3.heap.size:=S3.out.lt
 have N6:Hid (¬ bB db mb tb w3.heap.size):=hid (fun h=>by have:=H3.out _ h;omega)
 have NB:Hid (¬ bB db mb tb w.heap.size):=hid (fun h=>by have:=H3.out _ h;omega)
 by_cases hlt:g < len
 ·have hlti:(g:Int) < (len:Int):=by omega
  have HV2:Hid (eF D = cutD D bO g):=hid (by rw [HV.out.2.1,if_pos hlt])
  clear hlt
  go_wp2_with fail
  have S4:=hid (SC.box w3 t u)
  have A4:Below w3.heap.size w3 (w3.alloc (.cells #[.int .u64 t,.int .i64 u] 97)):=(Below.refl _ _).alloc (Nat.le_refl _) _
  generalize World.alloc w3 _ = w4 at *
  have B4:Hid (Below w.heap.size w w4):=hid (B3.out.trans (A4.mono B3.out.size))
  have T4:=hid (S3.out.below A4)
  clear A4
  refine (yC db mb tb D bO g w4 (HD.out.below B4.out) HW.out.wf (by decide)).mono ?_
  rintro e w5 ⟨rfl,hd5,hk5⟩
  have KW:Hid (Kept w w5 (bB db mb tb)):=hid ((Kept.bY B4.out).trans hk5)
  have SCB:Hid (SC w5 w.heap.size 0 0):=hid (T4.out.kept hk5 NB.out)
  have SC6:Hid (SC w5 w3.heap.size t u):=hid (S4.out.kept hk5 N6.out)
  have DW:=hid hd5
  clear hd5 hk5
  obtain ⟨r,hr⟩:∃ r,cutD D bO g = r:=⟨_,rfl⟩
  obtain ⟨D1,e1⟩:=r
  have GD:=HGW
  rw [hr] at HV2 DW GD ⊢
  simp only at DW GD ⊢
  by_cases he:e1 = 0
  ·subst he
   have HVF:Hid (eK D = syncD D1 bO):=hid (by rw [HV.out.2.2,HV2.out];rfl)
   clear hr
   go_wp2_with fail
   obtain ⟨x0,x1,_,_⟩:=SC6.out
   obtain ⟨p0,p1,q0,q1⟩:=SCB.out
   obtain ⟨r,hr⟩:∃ r,syncD D1 bO = r:=⟨_,rfl⟩
   obtain ⟨D2,e2⟩:=r
   have HR:=hid hr
   clear hr
   go_region_with (refine (iA db mb tb D1 bO _ (by first | exact DW.out | exact DW.out.below ((Below.refl _ _).drew)) GD.out.wf (by decide)).mono ?_;rintro e w9 ⟨rfl,hd9,hk9⟩;have D9:=hid hd9;have K9:Hid (Kept w w9 (bB db mb tb)):=hid (KW.out.trans (by first | exact hk9 | exact (Kept.drew _ _).trans hk9));have SB9:Hid (SC w9 w.heap.size 0 0):=hid (SCB.out.kept (by first | exact hk9 | exact (Kept.drew _ _).trans hk9) NB.out);have SC9:Hid (SC w9 w3.heap.size t u):=hid (SC6.out.kept (by first | exact hk9 | exact (Kept.drew _ _).trans hk9) N6.out);clear hd9 hk9 p0 p1 q0 q1 x0 x1;obtain ⟨x0,x1,_,_⟩:=SC9.out;obtain ⟨p0,p1,q0,q1⟩:=SB9.out;rw [HR.out] at D9 ⊢)
   all_goals
    go_wp2_with fail
    have SF:=hid (SB9.out.set t u)
    have KF:Hid (Kept w ((w9.setCell ⟨w.heap.size,0,none⟩ (.int .u64 t)).setCell ⟨w.heap.size,1,none⟩ (.int .i64 u)) (bB db mb tb)):=hid (K9.out.iG (Kept.kV w9 w.heap.size (.int .u64 t) (.int .i64 u)) (Nat.le_refl _))
    have DF:=hid (D9.out.sc SB9.out NB.out t u)
    generalize World.setCell _ _ _ = wF at *
    obtain ⟨y0,y1,_,_⟩:=SF.out
    simp only [Act.put,List.getElem_toArray,List.getElem_cons_succ,List.getElem_cons_zero,List.setIfInBounds_toArray,List.set_cons_zero,List.set_cons_succ]
    refine bodyPost_ret (v:=.tuple #[.agg #[.int .u64 t,.int .i64 u],.int .i64 e2]) ?_ rfl ?_
    ·simp [results,Tryz.results145,go_sem,y0,y1]
    ·rw [HV.out.1,HVF.out,HR.out]
     exact ⟨rfl,DF.out,KF.out⟩
  ·have he1:((e1:Int) != 0) = true:=by simp;omega
   have HVF:Hid (eK D = (D1,e1)):=hid (by rw [HV.out.2.2,HV2.out];exact if_pos he)
   clear hr he
   obtain ⟨x0,x1,_,_⟩:=SC6.out
   obtain ⟨p0,p1,q0,q1⟩:=SCB.out
   go_wp2_with fail
   have SF:=hid (SCB.out.set t u)
   have KF:Hid (Kept w ((w5.setCell ⟨w.heap.size,0,none⟩ (.int .u64 t)).setCell ⟨w.heap.size,1,none⟩ (.int .i64 u)) (bB db mb tb)):=hid (KW.out.iG (Kept.kV w5 w.heap.size (.int .u64 t) (.int .i64 u)) (Nat.le_refl _))
   have DF:=hid (DW.out.sc SCB.out NB.out t u)
   generalize World.setCell _ _ _ = wF at *
   obtain ⟨y0,y1,_,_⟩:=SF.out
   refine bodyPost_ret (v:=.tuple #[.agg #[.int .u64 t,.int .i64 u],.int .i64 e1]) (by simp [results,Tryz.results145,go_sem,y0,y1]) rfl ?_
   rw [HV.out.1,HVF.out]
   exact ⟨rfl,DF.out,KF.out⟩
 ·have hlti:¬ ((g:Int) < (len:Int)):=by omega
  have HVF':Hid (eK D = syncD D bO):=hid (by rw [HV.out.2.2,HV.out.2.1,if_neg hlt];rfl)
  clear hlt
  go_wp2_with fail
  have S4:=hid (SC.box w3 t u)
  have A4:Below w3.heap.size w3 (w3.alloc (.cells #[.int .u64 t,.int .i64 u] 97)):=(Below.refl _ _).alloc (Nat.le_refl _) _
  generalize World.alloc w3 _ = w4 at *
  have B4:Hid (Below w.heap.size w w4):=hid (B3.out.trans (A4.mono B3.out.size))
  have SCB:=hid (S3.out.below A4)
  have SC6:=S4
  have KW:Hid (Kept w w4 (bB db mb tb)):=hid (Kept.bY B4.out)
  have DW:=hid (HD.out.below B4.out)
  clear A4
  obtain ⟨D1,hD1⟩:∃ D1,D = D1:=⟨_,rfl⟩
  have GD:=HW
  have HVF:Hid (eK D = syncD D1 bO):=hid (by rw [HVF'.out,hD1])
  rw [hD1] at DW GD
  clear hD1
  obtain ⟨x0,x1,_,_⟩:=SC6.out
  obtain ⟨p0,p1,q0,q1⟩:=SCB.out
  obtain ⟨r,hr⟩:∃ r,syncD D1 bO = r:=⟨_,rfl⟩
  obtain ⟨D2,e2⟩:=r
  have HR:=hid hr
  clear hr
  go_region_with (refine (iA db mb tb D1 bO _ (by first | exact DW.out | exact DW.out.below ((Below.refl _ _).drew)) GD.out.wf (by decide)).mono ?_;rintro e w9 ⟨rfl,hd9,hk9⟩;have D9:=hid hd9;have K9:Hid (Kept w w9 (bB db mb tb)):=hid (KW.out.trans (by first | exact hk9 | exact (Kept.drew _ _).trans hk9));have SB9:Hid (SC w9 w.heap.size 0 0):=hid (SCB.out.kept (by first | exact hk9 | exact (Kept.drew _ _).trans hk9) NB.out);have SC9:Hid (SC w9 w3.heap.size t u):=hid (SC6.out.kept (by first | exact hk9 | exact (Kept.drew _ _).trans hk9) N6.out);clear hd9 hk9 p0 p1 q0 q1 x0 x1;obtain ⟨x0,x1,_,_⟩:=SC9.out;obtain ⟨p0,p1,q0,q1⟩:=SB9.out;rw [HR.out] at D9 ⊢)
  all_goals
   go_wp2_with fail
   have SF:=hid (SB9.out.set t u)
   have KF:Hid (Kept w ((w9.setCell ⟨w.heap.size,0,none⟩ (.int .u64 t)).setCell ⟨w.heap.size,1,none⟩ (.int .i64 u)) (bB db mb tb)):=hid (K9.out.iG (Kept.kV w9 w.heap.size (.int .u64 t) (.int .i64 u)) (Nat.le_refl _))
   have DF:=hid (D9.out.sc SB9.out NB.out t u)
   generalize World.setCell _ _ _ = wF at *
   obtain ⟨y0,y1,_,_⟩:=SF.out
   simp only [Act.put,List.getElem_toArray,List.getElem_cons_succ,List.getElem_cons_zero,List.setIfInBounds_toArray,List.set_cons_zero,List.set_cons_succ]
   refine bodyPost_ret (v:=.tuple #[.agg #[.int .u64 t,.int .i64 u],.int .i64 e2]) ?_ rfl ?_
   ·simp [results,Tryz.results145,go_sem,y0,y1]
   ·rw [HV.out.1,HVF.out,HR.out]
    exact ⟨rfl,DF.out,KF.out⟩

theorem dK.box (w:World) (db:Nat) (t v:Int):dK (w.alloc (.cells #[.pointer (some ⟨db,0,none⟩),.int .u64 t,.int .i64 v] 231)) w.heap.size db t v :=
 ⟨by go_cell,by go_cell,by go_cell,by simp,by simp,eG.alloc (by simp)⟩
theorem wX (db mb tb:Nat) (D:aA) (w:World) (hd:aG w db mb tb D) (hw:aW D) (hs:D.steps + 1 <= 1000000000) :
  Calls Tryz.prog 145 #[.pointer (some ⟨db,0,none⟩)] w (lM db mb tb D w):=by
 by_cases h:bG D bO = 0
 ·exact aDl db mb tb D w hd hw hs h
 ·exact aEN db mb tb D w hd h
theorem aBO {D:aA} (h:aW D) (hs:D.steps + 2 <= 1000000000):aW (eK D).1 /\ (eK D).1.steps <= D.steps + 2:=by
 have h1:aW (eF D).1 /\ (eF D).1.steps <= D.steps + 1:=by
  unfold eF
  split
  ·exact h.cut _ _ (by omega)
  ·exact ⟨h,by simp only;omega⟩
 unfold eK
 split
 ·exact ⟨h,by simp only;omega⟩
 ·split
  ·exact ⟨h,by simp only;omega⟩
  ·split
   ·exact ⟨h1.1,by omega⟩
   ·have h2:=h1.1.sync bO (by omega)
    exact ⟨h2.1,by omega⟩

def dJ (D:aA):aA × Nat:=if (cC D cD).2 ≠ 0 then cC D cD else eK (cC D cD).1
def eB (D:aA):mC:=iF (cC D cD).1
def aB3 (db mb tb:Nat) (D:aA) (w:World):Ending -> World -> Prop:=fun e w' =>
 ((dJ D).2 ≠ 0 -> e = .returned (.tuple #[.pointer none,.int .i64 (dJ D).2])) /\
 ((dJ D).2 = 0 -> ∃ bb,e = .returned (.tuple #[.pointer (some ⟨bb,0,none⟩),.int .i64 0]) /\ dK w' bb db (eB D).t (eB D).v /\ w.heap.size <= bb) /\
 aG w' db mb tb (dJ D).1 /\ Kept w w' (bB db mb tb)
theorem wW {D:aA} (h:aW D) (hs:D.steps + 3 <= 1000000000):aW (dJ D).1 /\ (dJ D).1.steps <= D.steps + 3:=by
 have h1:=mM cD h (by omega)
 unfold dJ
 split
 ·exact ⟨h1.1,by omega⟩
 ·have h2:=aBO h1.1 (by omega)
  exact ⟨h2.1,by omega⟩

set_option maxRecDepth 20000 in
theorem aG5 (db mb tb:Nat) (D:aA) (w:World) (hd:aG w db mb tb D) (hw:aW D) (hs:D.steps + 2 <= 1000000000) :
  Calls Tryz.prog 99 #[.pointer (some ⟨db,0,none⟩)] w (aB3 db mb tb D w):=by
 have HD:=hid hd
 have HW:=hid hw
 have HG1:=hid (mM cD hw (by omega))
 have HS:=hid hs
 have H3:=hid hd.lt3
 clear hd hw hs
 unfold aB3
 obtain ⟨r,hr⟩:∃ r,cC D cD = r:=⟨_,rfl⟩
 obtain ⟨D1,e1⟩:=r
 have HR:=hid hr
 have HV:Hid (dJ D = (if e1 ≠ 0 then (D1,e1) else eK D1) /\ eB D = iF D1):=hid (by unfold dJ eB;rw [hr];exact ⟨rfl,rfl⟩)
 rw [hr] at HG1
 clear hr
 rw [HV.out.1,HV.out.2]
 clear HV
 by_cases he:e1 = 0
 ·subst he
  rw [if_neg (by simp)]
  obtain ⟨r2,hr2⟩:∃ r,eK D1 = r:=⟨_,rfl⟩
  obtain ⟨D2,e2⟩:=r2
  obtain ⟨s,hs⟩:∃ s,iF D1 = s:=⟨_,rfl⟩
  obtain ⟨t,v,g⟩:=s
  have HR2:=hid hr2
  have HS2:=hid hs
  rw [hr2,hs]
  clear hr2 hs
  simp only
  by_cases he2:e2 = 0
  ·subst he2
   go_enter Tryz.func99,Tryz.ntmps99
   go_wp2_with fail
   refine (qT db mb tb D cD w HD.out HW.out (by decide)).mono ?_
   rintro e w1 ⟨rfl,hd1,hk1⟩
   rw [HR.out] at hd1 ⊢
   have DD1:=hid hd1
   have K1:=hid hk1
   clear hd1 hk1
   go_wp2_with fail
   refine (wX db mb tb D1 w1 DD1.out HG1.out.1 (by have h1:D1.steps <= D.steps + 1:=HG1.out.2;have:=HS.out;omega)).mono ?_
   rintro e w2 ⟨rfl,hd2,hk2⟩
   rw [HR2.out] at hd2 ⊢
   rw [HS2.out]
   have DD2:=hid hd2
   have K2:=hid (K1.out.trans hk2)
   clear hd2 hk2
   go_wp2_with fail
   have S3:=hid (SC.box w2 t v)
   have A3:Below w2.heap.size w2 (w2.alloc (.cells #[.int .u64 t,.int .i64 v] 97)):=(Below.refl _ _).alloc (Nat.le_refl _) _
   have A4:Below w2.heap.size w2 ((w2.alloc (.cells #[.int .u64 t,.int .i64 v] 97)).alloc (.cells #[.pointer (some ⟨db,0,none⟩),.int .u64 t,.int .i64 v] 231)):=A3.alloc (by simp) _
   have BK:=dK.box (w2.alloc (.cells #[.int .u64 t,.int .i64 v] 97)) db t v
   go_ret2
   refine ⟨fun h=>absurd rfl h,fun _=>⟨_,rfl,?_,?_⟩,?_,?_⟩
   ·simpa using BK
   ·have:=K2.out.size
    omega
   ·exact DD2.out.below A4
   ·exact K2.out.trans (Kept.bY A4)
  ·have he2b:((e2:Int) != 0) = true:=by simp;omega
   have HE2:=hid he2
   clear he2
   go_enter Tryz.func99,Tryz.ntmps99
   go_wp2_with fail
   refine (qT db mb tb D cD w HD.out HW.out (by decide)).mono ?_
   rintro e w1 ⟨rfl,hd1,hk1⟩
   rw [HR.out] at hd1 ⊢
   have DD1:=hid hd1
   have K1:=hid hk1
   clear hd1 hk1
   go_wp2_with fail
   refine (wX db mb tb D1 w1 DD1.out HG1.out.1 (by have h1:D1.steps <= D.steps + 1:=HG1.out.2;have:=HS.out;omega)).mono ?_
   rintro e w2 ⟨rfl,hd2,hk2⟩
   rw [HR2.out] at hd2 ⊢
   rw [HS2.out]
   have DD2:=hid hd2
   have K2:=hid (K1.out.trans hk2)
   clear hd2 hk2
   go_wp2_with fail
   have S3:=hid (SC.box w2 t v)
   have A3:Below w2.heap.size w2 (w2.alloc (.cells #[.int .u64 t,.int .i64 v] 97)):=(Below.refl _ _).alloc (Nat.le_refl _) _
   go_ret2
   exact ⟨fun _=>rfl,fun h=>absurd h HE2.out,DD2.out.below A3,K2.out.trans (Kept.bY A3)⟩
 ·have he1:((e1:Int) != 0) = true:=by simp;omega
  have HE:=hid he
  clear he
  go_enter Tryz.func99,Tryz.ntmps99
  go_wp2_with fail
  refine (qT db mb tb D cD w HD.out HW.out (by decide)).mono ?_
  rintro e w1 ⟨rfl,hd1,hk1⟩
  have D1:=hid hd1
  have K1:=hid hk1
  clear hd1 hk1
  rw [HR.out] at D1 ⊢
  go_wp2_with fail
  go_ret2
  exact ⟨rfl,D1.out,K1.out⟩

def eV (D:aA) (n:ByteArray) (b:List Nat):aA × Nat:=if (aY D n b).2 ≠ 0 then aY D n b else syncD (aY D n b).1 n
def jN (D:aA) (b:List Nat):aA × Nat:=if (eV D cD b).2 ≠ 0 then eV D cD b else gK (eV D cD b).1 cD bO
def cU (D:aA) (b:List Nat):aA × Nat :=
 if D.down = true then (D,50) else if (bT D bO).all.length < 256 then eV D bO b else if (cC D cD).2 ≠ 0 then cC D cD else jN (cC D cD).1 b
theorem aBd {D:aA} (n:ByteArray) (b:List Nat) (h:aW D) (hs:D.steps + 2 <= 1000000000):aW (eV D n b).1 /\ (eV D n b).1.steps <= D.steps + 2:=by
 have h1:=h.append n b (by omega)
 unfold eV
 split
 ·exact ⟨h1.1,by omega⟩
 ·have h2:=h1.1.sync n (by omega)
  exact ⟨h2.1,by omega⟩
theorem aBT {D:aA} (b:List Nat) (h:aW D) (hs:D.steps + 3 <= 1000000000):aW (jN D b).1 /\ (jN D b).1.steps <= D.steps + 3:=by
 have h1:=aBd cD b h (by omega)
 unfold jN
 split
 ·exact ⟨h1.1,by omega⟩
 ·have h2:=h1.1.move cD bO (by omega)
  exact ⟨h2.1,by omega⟩
theorem aBU {D:aA} (b:List Nat) (h:aW D) (hs:D.steps + 4 <= 1000000000):aW (cU D b).1 /\ (cU D b).1.steps <= D.steps + 4:=by
 unfold cU
 split
 ·exact ⟨h,by simp only;omega⟩
 ·split
  ·have h1:=aBd bO b h (by omega)
   exact ⟨h1.1,by omega⟩
  ·have h1:=mM cD h (by omega)
   split
   ·exact ⟨h1.1,by omega⟩
   ·have h2:=aBT b h1.1 (by omega)
    exact ⟨h2.1,by omega⟩

set_option maxRecDepth 20000 in
theorem aDm (bb db mb tb:Nat) (D:aA) (bv:Value) (b:List Nat) (w:World) (hd:aG w db mb tb D) (hw:aW D) (hs:D.steps + 4 <= 1000000000) (hc:w.cell? ⟨bb,0,none⟩ = some (.pointer (some ⟨db,0,none⟩))) (hnb:¬ bB db mb tb bb)
  (hB:Bytes w bv b) (hbv:∀ g,bv.ownBlock = some g -> ¬ bB db mb tb g) (hdn:D.down = true) :
  Calls Tryz.prog 197 #[.pointer (some ⟨bb,0,none⟩),bv] w (cV db mb tb (cU D b) w):=by
 have HD:=hid hd
 have HW:=hid hw
 have HS:=hid hs
 have HNB:=hid hnb
 have HB:=hid hB
 have HBV:=hid hbv
 have HC:=hid hc
 obtain ⟨ab,cb,rfl,_⟩:=hB.shape
 clear hd hw hs hnb hB hbv
 have HDN:=hid hdn
 have HV:Hid (cU D b = (D,50)):=hid (by unfold cU;rw [if_pos hdn])
 have HF:Hid (bG D bO = 50):=hid (by unfold bG;rw [if_pos hdn])
 clear hdn
 go_enter Tryz.func197,Tryz.ntmps197
 go_wp2_with fail
 refine (iZ db mb tb D bO w HD.out (by decide) (by rw [HF.out];decide)).mono ?_
 rintro e w1 ⟨rfl,hb1⟩
 rw [HF.out]
 have B1:=hid hb1
 clear hb1
 go_wp2_with fail
 go_ret
 exact ⟨by rw [HV.out];rfl,by rw [HV.out];exact HD.out.below B1.out,Kept.bY B1.out⟩

set_option maxRecDepth 20000 in
theorem aDo (bb db mb tb:Nat) (D:aA) (bv:Value) (b:List Nat) (w:World) (hd:aG w db mb tb D) (hw:aW D) (hs:D.steps + 4 <= 1000000000) (hc:w.cell? ⟨bb,0,none⟩ = some (.pointer (some ⟨db,0,none⟩))) (hnb:¬ bB db mb tb bb)
  (hB:Bytes w bv b) (hbv:∀ g,bv.ownBlock = some g -> ¬ bB db mb tb g) (hdn:D.down = false) (hf:aC bO D.files = none) :
  Calls Tryz.prog 197 #[.pointer (some ⟨bb,0,none⟩),bv] w (cV db mb tb (cU D b) w):=by
 have HD:=hid hd
 have HW:=hid hw
 have HS:=hid hs
 have HNB:=hid hnb
 have HB:=hid hB
 have HBV:=hid hbv
 have HC:=hid hc
 obtain ⟨ab,cb,rfl,_⟩:=hB.shape
 clear hd hw hs hnb hB hbv
 have HF:Hid (bG D bO = 31):=hid (by unfold bG;rw [if_neg (by rw [hdn];decide),if_pos hf])
 have hlen:(bT D bO).all.length < 256:=by rw [fF hf];decide
 have HVT:Hid (cU D b = eV D bO b):=hid (by
  unfold cU
  rw [if_neg (by rw [hdn];decide),if_pos hlen])
 have HVE:Hid (∀ D' e',eV D bO b = (D',e') -> e' ≠ 0 -> cU D b = (D',e')):=hid fun D' e' h _=>by rw [HVT.out,h]
 have HV0:Hid (∀ D',eV D bO b = (D',0) -> cU D b = (D',0)):=hid fun D' h=>by rw [HVT.out,h]
 clear hdn hf hlen
 go_enter Tryz.func197,Tryz.ntmps197
 go_wp2_with fail
 refine (iZ db mb tb D bO w HD.out (by decide) (by rw [HF.out];decide)).mono ?_
 rintro e w1 ⟨rfl,hb1⟩
 rw [HF.out]
 have C1:=hid (HC.out)
 have DW:=hid (HD.out.below hb1)
 have KW:Hid (Kept w w1 (bB db mb tb)):=hid (Kept.bY hb1)
 have BVW:=hid (HB.out.below hb1)
 have CW:Hid (w1.cell? ⟨bb,0,none⟩ = some (.pointer (some ⟨db,0,none⟩))):=hid (KW.out.cell HC.out HNB.out)
 have GD:Hid (aW D /\ D.steps + 2 <= 1000000000):=hid ⟨HW.out,by have:=HS.out;omega⟩
 clear hb1
 clear hc
 have c1:=CW.out
 go_wp2_with fail
 obtain ⟨r,hr⟩:∃ r,aY D bO b = r:=⟨_,rfl⟩
 obtain ⟨D2,e2⟩:=r
 have HR:=hid hr
 have G2:Hid (aW D2 /\ D2.steps <= D.steps + 1):=hid (by have h:=GD.out.1.append bO b (by have:=GD.out.2;omega);rw [hr] at h;exact h)
 clear hr
 refine (mX db mb tb D bO _ b w1 DW.out GD.out.1 BVW.out (by decide)).mono ?_
 rintro e w4 ⟨rfl,hd4,hk4⟩
 rw [HR.out] at hd4 ⊢
 have D4:=hid hd4
 have K4:=hid (KW.out.trans hk4)
 have C4:Hid (w4.cell? ⟨bb,0,none⟩ = some (.pointer (some ⟨db,0,none⟩))):=hid (hk4.cell CW.out HNB.out)
 clear hd4 hk4
 by_cases he2:e2 = 0
 ·subst he2
  have c4:=C4.out
  go_wp2_with fail
  obtain ⟨r,hr⟩:∃ r,syncD D2 bO = r:=⟨_,rfl⟩
  obtain ⟨D3,e3⟩:=r
  have HR3:=hid hr
  have G3:Hid (aW D3 /\ D3.steps <= D2.steps + 1):=hid (by have h:=G2.out.1.sync bO (by have:=GD.out.2;have:=G2.out.2;omega);rw [hr] at h;exact h)
  clear hr
  refine (iA db mb tb D2 bO w4 D4.out G2.out.1.wf (by decide)).mono ?_
  rintro e w5 ⟨rfl,hd5,hk5⟩
  rw [HR3.out] at hd5 ⊢
  have D5:=hid hd5
  have K5:=hid (K4.out.trans hk5)
  have C5:Hid (w5.cell? ⟨bb,0,none⟩ = some (.pointer (some ⟨db,0,none⟩))):=hid (hk5.cell C4.out HNB.out)
  clear hd5 hk5 c4
  have HT:Hid (eV D bO b = (D3,e3)):=hid (by unfold eV;rw [HR.out];exact HR3.out)
  by_cases he3:e3 = 0
  ·subst he3
   go_wp2_with fail
   go_ret
   exact ⟨by rw [HV0.out D3 HT.out];rfl,by rw [HV0.out D3 HT.out];exact D5.out,K5.out⟩
  ·have he3b:((e3:Int) != 0) = true:=by simp;omega
   have HE:=hid he3
   clear he3
   go_wp2_with fail
   go_ret
   exact ⟨by rw [HVE.out D3 e3 HT.out HE.out];rfl,by rw [HVE.out D3 e3 HT.out HE.out];exact D5.out,K5.out⟩
 ·have he2b:((e2:Int) != 0) = true:=by simp;omega
  have HE:=hid he2
  have HT:Hid (eV D bO b = (D2,e2)):=hid (by unfold eV;rw [HR.out];exact if_pos he2)
  clear he2
  go_wp2_with fail
  go_ret
  exact ⟨by rw [HVE.out D2 e2 HT.out HE.out];rfl,by rw [HVE.out D2 e2 HT.out HE.out];exact D4.out,K4.out⟩

set_option maxRecDepth 20000 in
theorem aBV (bb db mb tb:Nat) (D:aA) (bv:Value) (b:List Nat) (w:World) (hd:aG w db mb tb D) (hw:aW D) (hs:D.steps + 4 <= 1000000000) (hc:w.cell? ⟨bb,0,none⟩ = some (.pointer (some ⟨db,0,none⟩))) (hnb:¬ bB db mb tb bb)
  (hB:Bytes w bv b) (hbv:∀ g,bv.ownBlock = some g -> ¬ bB db mb tb g) (f:aO) (hdn:D.down = false) (hf:aC bO D.files = some f) (hl:f.all.length < 256) :
  Calls Tryz.prog 197 #[.pointer (some ⟨bb,0,none⟩),bv] w (cV db mb tb (cU D b) w):=by
 have HD:=hid hd
 have HW:=hid hw
 have HS:=hid hs
 have HNB:=hid hnb
 have HB:=hid hB
 have HBV:=hid hbv
 have HC:=hid hc
 obtain ⟨ab,cb,rfl,_⟩:=hB.shape
 clear hd hw hs hnb hB hbv
 have HF:=hid hf
 have HDN:=hid hdn
 have hlen:(bT D bO).all.length < 256:=by unfold bT;rw [hf];exact hl
 have HVT:Hid (cU D b = eV D bO b):=hid (by
  unfold cU
  rw [if_neg (by rw [hdn];decide),if_pos hlen])
 have HVE:Hid (∀ D' e',eV D bO b = (D',e') -> e' ≠ 0 -> cU D b = (D',e')):=hid fun D' e' h _=>by rw [HVT.out,h]
 have HV0:Hid (∀ D',eV D bO b = (D',0) -> cU D b = (D',0)):=hid fun D' h=>by rw [HVT.out,h]
 clear hdn hf hlen
 generalize hL:f.all = L at hl
 have hli:(L.length:Int) < 256:=by omega
 go_enter Tryz.func197,Tryz.ntmps197
 go_wp2_with fail
 refine (kI db mb tb D bO f w HD.out HDN.out (by decide) HF.out).mono ?_
 rintro e w1 ⟨v,rfl,hBf,hb1⟩
 obtain ⟨a,c,rfl,_⟩:=hBf.shape
 rw [hL] at hBf ⊢
 clear hBf
 have C1:=hid (HC.out)
 have DW:=hid (HD.out.below hb1)
 have KW:Hid (Kept w w1 (bB db mb tb)):=hid (Kept.bY hb1)
 have BVW:=hid (HB.out.below hb1)
 have CW:Hid (w1.cell? ⟨bb,0,none⟩ = some (.pointer (some ⟨db,0,none⟩))):=hid (KW.out.cell HC.out HNB.out)
 have GD:Hid (aW D /\ D.steps + 2 <= 1000000000):=hid ⟨HW.out,by have:=HS.out;omega⟩
 clear hb1
 clear hc hl
 have c1:=CW.out
 go_wp2_with fail
 obtain ⟨r,hr⟩:∃ r,aY D bO b = r:=⟨_,rfl⟩
 obtain ⟨D2,e2⟩:=r
 have HR:=hid hr
 have G2:Hid (aW D2 /\ D2.steps <= D.steps + 1):=hid (by have h:=GD.out.1.append bO b (by have:=GD.out.2;omega);rw [hr] at h;exact h)
 clear hr
 refine (mX db mb tb D bO _ b w1 DW.out GD.out.1 BVW.out (by decide)).mono ?_
 rintro e w4 ⟨rfl,hd4,hk4⟩
 rw [HR.out] at hd4 ⊢
 have D4:=hid hd4
 have K4:=hid (KW.out.trans hk4)
 have C4:Hid (w4.cell? ⟨bb,0,none⟩ = some (.pointer (some ⟨db,0,none⟩))):=hid (hk4.cell CW.out HNB.out)
 clear hd4 hk4
 by_cases he2:e2 = 0
 ·subst he2
  have c4:=C4.out
  go_wp2_with fail
  obtain ⟨r,hr⟩:∃ r,syncD D2 bO = r:=⟨_,rfl⟩
  obtain ⟨D3,e3⟩:=r
  have HR3:=hid hr
  have G3:Hid (aW D3 /\ D3.steps <= D2.steps + 1):=hid (by have h:=G2.out.1.sync bO (by have:=GD.out.2;have:=G2.out.2;omega);rw [hr] at h;exact h)
  clear hr
  refine (iA db mb tb D2 bO w4 D4.out G2.out.1.wf (by decide)).mono ?_
  rintro e w5 ⟨rfl,hd5,hk5⟩
  rw [HR3.out] at hd5 ⊢
  have D5:=hid hd5
  have K5:=hid (K4.out.trans hk5)
  have C5:Hid (w5.cell? ⟨bb,0,none⟩ = some (.pointer (some ⟨db,0,none⟩))):=hid (hk5.cell C4.out HNB.out)
  clear hd5 hk5 c4
  have HT:Hid (eV D bO b = (D3,e3)):=hid (by unfold eV;rw [HR.out];exact HR3.out)
  by_cases he3:e3 = 0
  ·subst he3
   go_wp2_with fail
   go_ret
   exact ⟨by rw [HV0.out D3 HT.out];rfl,by rw [HV0.out D3 HT.out];exact D5.out,K5.out⟩
  ·have he3b:((e3:Int) != 0) = true:=by simp;omega
   have HE:=hid he3
   clear he3
   go_wp2_with fail
   go_ret
   exact ⟨by rw [HVE.out D3 e3 HT.out HE.out];rfl,by rw [HVE.out D3 e3 HT.out HE.out];exact D5.out,K5.out⟩
 ·have he2b:((e2:Int) != 0) = true:=by simp;omega
  have HE:=hid he2
  have HT:Hid (eV D bO b = (D2,e2)):=hid (by unfold eV;rw [HR.out];exact if_pos he2)
  clear he2
  go_wp2_with fail
  go_ret
  exact ⟨by rw [HVE.out D2 e2 HT.out HE.out];rfl,by rw [HVE.out D2 e2 HT.out HE.out];exact D4.out,K4.out⟩

set_option maxRecDepth 20000 in
theorem aDn (bb db mb tb:Nat) (D:aA) (bv:Value) (b:List Nat) (w:World) (hd:aG w db mb tb D) (hw:aW D) (hs:D.steps + 4 <= 1000000000) (hc:w.cell? ⟨bb,0,none⟩ = some (.pointer (some ⟨db,0,none⟩))) (hnb:¬ bB db mb tb bb)
  (hB:Bytes w bv b) (hbv:∀ g,bv.ownBlock = some g -> ¬ bB db mb tb g) (f:aO) (hdn:D.down = false) (hf:aC bO D.files = some f) (hl:¬ f.all.length < 256) :
  Calls Tryz.prog 197 #[.pointer (some ⟨bb,0,none⟩),bv] w (cV db mb tb (cU D b) w):=by
 have HD:=hid hd
 have HW:=hid hw
 have HS:=hid hs
 have HNB:=hid hnb
 have HB:=hid hB
 have HBV:=hid hbv
 have HC:=hid hc
 obtain ⟨ab,cb,rfl,_⟩:=hB.shape
 clear hd hw hs hnb hB hbv
 have HF:=hid hf
 have HDN:=hid hdn
 obtain ⟨r,hr⟩:∃ r,cC D cD = r:=⟨_,rfl⟩
 obtain ⟨D1,e1⟩:=r
 have HR1:=hid hr
 have HVT:Hid (cU D b = if e1 ≠ 0 then (D1,e1) else jN D1 b):=hid (by
  unfold cU
  rw [if_neg (by rw [hdn];decide),if_neg (by unfold bT;rw [hf];exact hl),hr])
 have G1:Hid (aW D1 /\ D1.steps <= D.steps + 1):=hid (by have h:=mM cD HW.out (by have:=HS.out;omega);rw [hr] at h;exact h)
 clear hdn hf hr
 generalize hL:f.all = L at hl
 have hli:¬ (L.length:Int) < 256:=by omega
 go_enter Tryz.func197,Tryz.ntmps197
 go_wp2_with fail
 refine (kI db mb tb D bO f w HD.out HDN.out (by decide) HF.out).mono ?_
 rintro e w1 ⟨v,rfl,hBf,hb1⟩
 obtain ⟨a,c,rfl,_⟩:=hBf.shape
 rw [hL] at hBf ⊢
 clear hBf
 have C1:=hid (HC.out)
 have DW:=hid (HD.out.below hb1)
 have KW:Hid (Kept w w1 (bB db mb tb)):=hid (Kept.bY hb1)
 have BVW:=hid (HB.out.below hb1)
 have CW:Hid (w1.cell? ⟨bb,0,none⟩ = some (.pointer (some ⟨db,0,none⟩))):=hid (KW.out.cell HC.out HNB.out)
 have GD:Hid (aW D /\ D.steps + 2 <= 1000000000):=hid ⟨HW.out,by have:=HS.out;omega⟩
 clear hb1
 clear hc hl
 have c1:=CW.out
 go_wp2_with fail
 refine (qT db mb tb D cD w1 DW.out HW.out (by decide)).mono ?_
 rintro e w2 ⟨rfl,hd2,hk2⟩
 rw [HR1.out] at hd2 ⊢
 have DX:=hid hd2
 have KX:=hid (KW.out.trans hk2)
 have BX:=hid (BVW.out.kept hk2 HBV.out)
 have CX:Hid (w2.cell? ⟨bb,0,none⟩ = some (.pointer (some ⟨db,0,none⟩))):=hid (hk2.cell CW.out HNB.out)
 clear hd2 hk2 c1 DW KW BVW CW GD
 have DW:=DX
 have KW:=KX
 have BVW:=BX
 have CW:=CX
 have GD:Hid (aW D1 /\ D1.steps + 3 <= 1000000000):=hid ⟨G1.out.1,by have:=HS.out;have:=G1.out.2;omega⟩
 by_cases he1:e1 = 0
 ·subst he1
  have HVE:Hid (∀ D' e',eV D1 cD b = (D',e') -> e' ≠ 0 -> cU D b = (D',e')):=hid fun D' e' h h2=>by
   rw [HVT.out,if_neg (by decide)]
   unfold jN
   rw [h]
   exact if_pos h2
  have HV0:Hid (∀ D',eV D1 cD b = (D',0) -> cU D b = gK D' cD bO):=hid fun D' h=>by
   rw [HVT.out,if_neg (by decide)]
   unfold jN
   rw [h]
   exact if_neg (fun h=>h rfl)
  have c2:=CW.out
  go_wp2_with fail
  obtain ⟨r,hr⟩:∃ r,aY D1 cD b = r:=⟨_,rfl⟩
  obtain ⟨D2,e2⟩:=r
  have HR:=hid hr
  have G2:Hid (aW D2 /\ D2.steps <= D1.steps + 1):=hid (by have h:=GD.out.1.append cD b (by have:=GD.out.2;omega);rw [hr] at h;exact h)
  clear hr
  refine (mX db mb tb D1 cD _ b w2 DW.out GD.out.1 BVW.out (by decide)).mono ?_
  rintro e w4 ⟨rfl,hd4,hk4⟩
  rw [HR.out] at hd4 ⊢
  have D4:=hid hd4
  have K4:=hid (KW.out.trans hk4)
  have C4:Hid (w4.cell? ⟨bb,0,none⟩ = some (.pointer (some ⟨db,0,none⟩))):=hid (hk4.cell CW.out HNB.out)
  clear hd4 hk4
  by_cases he2:e2 = 0
  ·subst he2
   have c4:=C4.out
   go_wp2_with fail
   obtain ⟨r,hr⟩:∃ r,syncD D2 cD = r:=⟨_,rfl⟩
   obtain ⟨D3,e3⟩:=r
   have HR3:=hid hr
   have G3:Hid (aW D3 /\ D3.steps <= D2.steps + 1):=hid (by have h:=G2.out.1.sync cD (by have:=GD.out.2;have:=G2.out.2;omega);rw [hr] at h;exact h)
   clear hr
   refine (iA db mb tb D2 cD w4 D4.out G2.out.1.wf (by decide)).mono ?_
   rintro e w5 ⟨rfl,hd5,hk5⟩
   rw [HR3.out] at hd5 ⊢
   have D5:=hid hd5
   have K5:=hid (K4.out.trans hk5)
   have C5:Hid (w5.cell? ⟨bb,0,none⟩ = some (.pointer (some ⟨db,0,none⟩))):=hid (hk5.cell C4.out HNB.out)
   clear hd5 hk5 c4
   have HT:Hid (eV D1 cD b = (D3,e3)):=hid (by unfold eV;rw [HR.out];exact HR3.out)
   by_cases he3:e3 = 0
   ·subst he3
    have c5:=C5.out
    go_wp2_with fail
    refine (aAy db mb tb D3 cD bO w5 D5.out G3.out.1.wf (by decide) (by decide)).mono ?_
    rintro e w6 ⟨rfl,hd6,hk6⟩
    have D6:=hid hd6
    have K6:=hid (K5.out.trans hk6)
    clear hd6 hk6 c5
    go_wp2_with fail
    go_ret
    exact ⟨by rw [HV0.out D3 HT.out];rfl,by rw [HV0.out D3 HT.out];exact D6.out,K6.out⟩
   ·have he3b:((e3:Int) != 0) = true:=by simp;omega
    have HE:=hid he3
    clear he3
    go_wp2_with fail
    go_ret
    exact ⟨by rw [HVE.out D3 e3 HT.out HE.out];rfl,by rw [HVE.out D3 e3 HT.out HE.out];exact D5.out,K5.out⟩
  ·have he2b:((e2:Int) != 0) = true:=by simp;omega
   have HE:=hid he2
   have HT:Hid (eV D1 cD b = (D2,e2)):=hid (by unfold eV;rw [HR.out];exact if_pos he2)
   clear he2
   go_wp2_with fail
   go_ret
   exact ⟨by rw [HVE.out D2 e2 HT.out HE.out];rfl,by rw [HVE.out D2 e2 HT.out HE.out];exact D4.out,K4.out⟩
 ·have he1b:((e1:Int) != 0) = true:=by simp;omega
  have HV:Hid (cU D b = (D1,e1)):=hid (by rw [HVT.out,if_pos he1])
  clear he1
  go_wp2_with fail
  go_ret
  exact ⟨by rw [HV.out];rfl,by rw [HV.out];exact DW.out,KW.out⟩

set_option maxRecDepth 20000 in
theorem aEP (bb db mb tb:Nat) (D:aA) (bv:Value) (b:List Nat) (w:World) (hd:aG w db mb tb D) (hw:aW D) (hs:D.steps + 4 <= 1000000000) (hc:w.cell? ⟨bb,0,none⟩ = some (.pointer (some ⟨db,0,none⟩))) (hnb:¬ bB db mb tb bb)
  (hB:Bytes w bv b) (hbv:∀ g,bv.ownBlock = some g -> ¬ bB db mb tb g) :
  Calls Tryz.prog 197 #[.pointer (some ⟨bb,0,none⟩),bv] w (cV db mb tb (cU D b) w):=by
 have HD:=hid hd
 have HW:=hid hw
 have HS:=hid hs
 have HNB:=hid hnb
 have HB:=hid hB
 have HBV:=hid hbv
 have HC:=hid hc
 obtain ⟨ab,cb,rfl,_⟩:=hB.shape
 clear hd hw hs hnb hB hbv
 cases hdn:D.down
 ·cases hf:aC bO D.files with
  | none=>exact aDo bb db mb tb D _ b w HD.out HW.out HS.out hc HNB.out HB.out HBV.out hdn hf
  | some f =>
   by_cases hl:f.all.length < 256
   ·exact aBV bb db mb tb D _ b w HD.out HW.out HS.out hc HNB.out HB.out HBV.out f hdn hf hl
   ·exact aDn bb db mb tb D _ b w HD.out HW.out HS.out hc HNB.out HB.out HBV.out f hdn hf hl
 ·exact aDm bb db mb tb D _ b w HD.out HW.out HS.out hc HNB.out HB.out HBV.out hdn

def dG (D:aA) (t v t' v':Int):aA × Nat :=
 if qE t' v' = false then (D,2) else if vMy t v t' v' = false then (D,34) else if t' = t /\ v' = v then (D,0) else cU D (frP 3 (bV [t'.toNat,(v' + 1).toNat]))
theorem aD2 {D:aA} (t v t' v':Int) (h:aW D) (hs:D.steps + 4 <= 1000000000):aW (dG D t v t' v').1 /\ (dG D t v t' v').1.steps <= D.steps + 4:=by
 unfold dG
 split
 ·exact ⟨h,by simp only;omega⟩
 ·split
  ·exact ⟨h,by simp only;omega⟩
  ·split
   ·exact ⟨h,by simp only;omega⟩
   ·exact aBU _ h hs
def iJ (bb db mb tb:Nat) (D:aA) (t v t' v':Int) (w:World):Ending -> World -> Prop:=fun e w' =>
 e = .returned (.int .i64 (dG D t v t' v').2) /\ aG w' db mb tb (dG D t v t' v').1 /\ dK w' bb db (if (dG D t v t' v').2 = 0 then t' else t) (if (dG D t v t' v').2 = 0 then v' else v) /\ Kept w w' (fun k=>bB db mb tb k \/ k = bb)
theorem dK.set {w:World} {bb db:Nat} {t v:Int} (h:dK w bb db t v) (t' v':Int):dK ((w.setCell ⟨bb,1,none⟩ (.int .u64 t')).setCell ⟨bb,2,none⟩ (.int .i64 v')) bb db t' v':=by
 refine ⟨?_,?_,?_,?_,?_,?_⟩
 ·rw [World.cell?_setCell_other _ _ _ _ (by simp),World.cell?_setCell_other _ _ _ _ (by simp)];exact h.c0
 ·rw [World.cell?_setCell_other _ _ _ _ (by simp)];exact World.cell?_setCell_same _ _ _ h.c1
 ·exact World.cell?_setCell_same _ _ _ (by rw [World.cell?_setCell_other _ _ _ _ (by simp)];exact h.c2)
 ·rw [World.frozen?_setCell,World.frozen?_setCell];exact h.f1
 ·rw [World.frozen?_setCell,World.frozen?_setCell];exact h.f2
 ·exact (h.n8.set ⟨bb,1,none⟩ h.c1 (by intro x e;cases e)).set ⟨bb,2,none⟩ (u:=.int .i64 v) (by rw [World.cell?_setCell_other _ _ _ _ (by simp)];exact h.c2) (by intro x e;cases e)
theorem aG.book {w:World} {bb db db' mb tb:Nat} {D:aA} {t v:Int} (h:aG w db mb tb D) (s:dK w bb db' t v) (hn:¬ bB db mb tb bb) (t' v':Int):aG ((w.setCell ⟨bb,1,none⟩ (.int .u64 t')).setCell ⟨bb,2,none⟩ (.int .i64 v')) db mb tb D :=
 (h.setOther (p:=⟨bb,1,none⟩) _ hn (fun x e=>by rw [s.c1] at e;cases e)).setOther (p:=⟨bb,2,none⟩) _ hn (fun x e=>by rw [World.cell?_setCell_other _ _ _ _ (by simp),s.c2] at e;cases e)

set_option maxRecDepth 20000 in
theorem aG1 (bb db mb tb:Nat) (D:aA) (t v t' v':Int) (w:World) (hd:aG w db mb tb D) (hw:aW D) (hs:D.steps + 4 <= 1000000000) (hk:dK w bb db t v) (hnb:¬ bB db mb tb bb) (_ht0:0 <= t') (hsn:qE t' v' = false) :
  Calls Tryz.prog 150 #[.pointer (some ⟨bb,0,none⟩),.agg #[.int .u64 t',.int .i64 v']] w (iJ bb db mb tb D t v t' v' w):=by
 have HD:=hid hd
 have HW:=hid hw
 have HS:=hid hs
 have HNB:=hid hnb
 have HK:=hid hk
 have H3:=hid hd.lt3
 have HBL:=hid hk.lt
 have HSN:=hid hsn
 have HV:Hid (dG D t v t' v' = (D,2)):=hid (if_pos hsn)
 clear hsn
 clear hd hw hs hnb hk
 go_enter Tryz.func150,Tryz.ntmps150
 go_wp2_with fail
 have SX1:=hid (SC.box w t' v')
 have A1:Hid (Below w.heap.size w (w.alloc (.cells #[.int .u64 t',.int .i64 v'] 97))):=hid ((Below.refl _ _).alloc (Nat.le_refl _) _)
 generalize World.alloc w _ = w1 at *
 have BK1:=hid (HK.out.below A1.out)
 refine (aDk bb db t v w1 BK1.out).mono ?_
 rintro e w2 ⟨rfl,rfl⟩
 obtain ⟨x0,x1,_,_⟩:=SX1.out
 go_wp2_with fail
 refine (iV t' v' w1).mono ?_
 rintro e w3 ⟨rfl,hb3⟩
 have SX:=hid (SX1.out.below hb3)
 have BK:=hid (BK1.out.below hb3)
 have B3:Hid (Below w.heap.size w w3):=hid (A1.out.trans (hb3.mono A1.out.size))
 rw [HSN.out]
 clear hb3 x0 x1
 go_wp2_with fail
 go_ret
 unfold iJ
 rw [HV.out]
 exact ⟨rfl,HD.out.below B3.out,BK.out,(Kept.bY B3.out).mono fun k _ h=>.inl h⟩

set_option maxRecDepth 20000 in
theorem aG3 (bb db mb tb:Nat) (D:aA) (t v t' v':Int) (w:World) (hd:aG w db mb tb D) (hw:aW D) (hs:D.steps + 4 <= 1000000000) (hk:dK w bb db t v) (hnb:¬ bB db mb tb bb) (_ht0:0 <= t') (hsn:qE t' v' = true) (hm:vMy t v t' v' = false) :
  Calls Tryz.prog 150 #[.pointer (some ⟨bb,0,none⟩),.agg #[.int .u64 t',.int .i64 v']] w (iJ bb db mb tb D t v t' v' w):=by
 have HD:=hid hd
 have HW:=hid hw
 have HS:=hid hs
 have HNB:=hid hnb
 have HK:=hid hk
 have H3:=hid hd.lt3
 have HBL:=hid hk.lt
 have HSN:=hid hsn
 have HM:=hid hm
 have HV:Hid (dG D t v t' v' = (D,34)):=hid (by unfold dG;rw [if_neg (by rw [hsn];decide),if_pos hm])
 clear hsn hm
 clear hd hw hs hnb hk
 go_enter Tryz.func150,Tryz.ntmps150
 go_wp2_with fail
 have SX1:=hid (SC.box w t' v')
 have A1:Hid (Below w.heap.size w (w.alloc (.cells #[.int .u64 t',.int .i64 v'] 97))):=hid ((Below.refl _ _).alloc (Nat.le_refl _) _)
 generalize World.alloc w _ = w1 at *
 have BK1:=hid (HK.out.below A1.out)
 refine (aDk bb db t v w1 BK1.out).mono ?_
 rintro e w2 ⟨rfl,rfl⟩
 obtain ⟨x0,x1,_,_⟩:=SX1.out
 go_wp2_with fail
 refine (iV t' v' w1).mono ?_
 rintro e w3 ⟨rfl,hb3⟩
 have SX:=hid (SX1.out.below hb3)
 have BK:=hid (BK1.out.below hb3)
 have B3:Hid (Below w.heap.size w w3):=hid (A1.out.trans (hb3.mono A1.out.size))
 rw [HSN.out]
 clear hb3 x0 x1
 go_wp2_with fail
 have ST:=aP.from w3
 refine aN [0,1,3,7,0,31,63,127] 0 (fun w'=>Below w3.heap.size w3 w') (by kernel_rfl) ?_
 refine aB [0,1,2,3,4] (by kernel_rfl) (L:=bm 8 31) (by kernel_rfl) (f':=3) rfl (fun _ _ _ _ h=>h) (fun w o h=>ST.alloc h o) (.inr (by first | exact Below.refl _ _ | exact (Below.refl _ _).drew)) ?_
 simp only [sF,sL]
 iterate 5 (first | (refine aQ _ (by rfl) (fun w' hs=>by obtain ⟨b0,b1,b2,_,_⟩:=BK.out.below hs;obtain ⟨x0,x1,_,_⟩:=SX.out.below hs;go_simp;try with_reducible rfl) rfl ?_;simp only [Act.put,sA]) | (refine aD _ (by rfl) (fun w'=>by go_simp;try with_reducible rfl) ?_;simp only [Act.put,sA]))
 refine aE ?_
 refine aI 5 (by kernel_rfl) (L:=bm 8 63) (by kernel_rfl) ?_
 simp only [sL]
 go_wp2_with fail;refine (aAa t v t' v' _).mono ?_;rintro e w4 ⟨rfl,hb4⟩;have I4:Hid (Below w3.heap.size w3 w4):=hid (by first | exact hb4 | exact ((Below.refl _ _).drew).trans hb4);clear hb4;rw [HM.out];go_wp2_with fail
 refine aF nofun ?_
 refine aB [6,7] (by kernel_rfl) (L:=bm 8 255) (by kernel_rfl) (f':=0) rfl (fun _ _ _ _ h=>h) (fun w o h=>ST.alloc h o) (.inl (by kernel_rfl)) ?_
 simp only [sF,sL]
 iterate 2 (refine aD _ (by rfl) (fun w'=>by go_simp;try with_reducible rfl) ?_;simp only [Act.put,sA])
 refine aE ?_
 refine aT (by kernel_rfl) ?_
 go_wp2_with fail
 have SX4:=hid (SX.out.below I4.out)
 have BK4:=hid (BK.out.below I4.out)
 have B4:Hid (Below w.heap.size w w4):=hid (B3.out.trans (I4.out.mono B3.out.size))
 clear SX BK ST
 go_ret
 unfold iJ
 rw [HV.out]
 exact ⟨rfl,HD.out.below B4.out,BK4.out,(Kept.bY B4.out).mono fun k _ h=>.inl h⟩

set_option maxRecDepth 20000 in
theorem aEH (bb db mb tb:Nat) (D:aA) (t v:Int) (w:World) (hd:aG w db mb tb D) (hw:aW D) (hs:D.steps + 4 <= 1000000000) (hk:dK w bb db t v) (hnb:¬ bB db mb tb bb) (_ht0:0 <= t) (hsn:qE t v = true) (hm:vMy t v t v = true) :
  Calls Tryz.prog 150 #[.pointer (some ⟨bb,0,none⟩),.agg #[.int .u64 t,.int .i64 v]] w (iJ bb db mb tb D t v t v w):=by
 have HD:=hid hd
 have HW:=hid hw
 have HS:=hid hs
 have HNB:=hid hnb
 have HK:=hid hk
 have H3:=hid hd.lt3
 have HBL:=hid hk.lt
 have HSN:=hid hsn
 have HM:=hid hm
 have HV:Hid (dG D t v t v = (D,0)):=hid (by unfold dG;rw [if_neg (by rw [hsn];decide),if_neg (by rw [hm];decide),if_pos ⟨rfl,rfl⟩])
 clear hsn hm
 clear hd hw hs hnb hk
 go_enter Tryz.func150,Tryz.ntmps150
 go_wp2_with fail
 have SX1:=hid (SC.box w t v)
 have A1:Hid (Below w.heap.size w (w.alloc (.cells #[.int .u64 t,.int .i64 v] 97))):=hid ((Below.refl _ _).alloc (Nat.le_refl _) _)
 generalize World.alloc w _ = w1 at *
 have BK1:=hid (HK.out.below A1.out)
 refine (aDk bb db t v w1 BK1.out).mono ?_
 rintro e w2 ⟨rfl,rfl⟩
 obtain ⟨x0,x1,_,_⟩:=SX1.out
 go_wp2_with fail
 refine (iV t v w1).mono ?_
 rintro e w3 ⟨rfl,hb3⟩
 have SX:=hid (SX1.out.below hb3)
 have BK:=hid (BK1.out.below hb3)
 have B3:Hid (Below w.heap.size w w3):=hid (A1.out.trans (hb3.mono A1.out.size))
 rw [HSN.out]
 clear hb3 x0 x1
 go_wp2_with fail
 have ST:=aP.from w3
 refine aN [0,1,3,7,0,31,63,127] 0 (fun w'=>Below w3.heap.size w3 w') (by kernel_rfl) ?_
 refine aB [0,1,2,3,4] (by kernel_rfl) (L:=bm 8 31) (by kernel_rfl) (f':=3) rfl (fun _ _ _ _ h=>h) (fun w o h=>ST.alloc h o) (.inr (by first | exact Below.refl _ _ | exact (Below.refl _ _).drew)) ?_
 simp only [sF,sL]
 iterate 5 (first | (refine aQ _ (by rfl) (fun w' hs=>by obtain ⟨b0,b1,b2,_,_⟩:=BK.out.below hs;obtain ⟨x0,x1,_,_⟩:=SX.out.below hs;go_simp;try with_reducible rfl) rfl ?_;simp only [Act.put,sA]) | (refine aD _ (by rfl) (fun w'=>by go_simp;try with_reducible rfl) ?_;simp only [Act.put,sA]))
 refine aE ?_
 refine aI 5 (by kernel_rfl) (L:=bm 8 63) (by kernel_rfl) ?_
 simp only [sL]
 go_wp2_with fail;refine (aAa t v t v _).mono ?_;rintro e w4 ⟨rfl,hb4⟩;have I4:Hid (Below w3.heap.size w3 w4):=hid (by first | exact hb4 | exact ((Below.refl _ _).drew).trans hb4);clear hb4;rw [HM.out];go_wp2_with fail
 refine aF nofun ?_
 refine aB [6,7] (by kernel_rfl) (L:=bm 8 255) (by kernel_rfl) (f':=0) rfl (fun _ _ _ _ h=>h) (fun w o h=>ST.alloc h o) (.inl (by kernel_rfl)) ?_
 simp only [sF,sL]
 iterate 2 (refine aD _ (by rfl) (fun w'=>by go_simp;try with_reducible rfl) ?_;simp only [Act.put,sA])
 refine aE ?_
 refine aT (by kernel_rfl) ?_
 go_wp2_with fail
 have SX4:=hid (SX.out.below I4.out)
 have BK4:=hid (BK.out.below I4.out)
 have B4:Hid (Below w.heap.size w w4):=hid (B3.out.trans (I4.out.mono B3.out.size))
 clear SX BK ST
 have ST4:=aP.from w4
 refine aN [0,0,2,6,14,31,63] 0 (fun w'=>Below w4.heap.size w4 w') (by kernel_rfl) ?_
 refine aB [0,1,2,3,4,5,6] (by kernel_rfl) (L:=bm 7 127) (by kernel_rfl) (f':=0) rfl (fun _ _ _ _ h=>h) (fun w o h=>ST4.alloc h o) (.inr (by first | exact Below.refl _ _ | exact (Below.refl _ _).drew)) ?_
 simp only [sF,sL]
 iterate 7 (first | (refine aQ _ (by rfl) (fun w' hs=>by obtain ⟨b0,b1,b2,_,_⟩:=BK4.out.below hs;obtain ⟨x0,x1,_,_⟩:=SX4.out.below hs;go_simp;try with_reducible rfl) rfl ?_;simp only [Act.put,sA]) | (refine aD _ (by rfl) (fun w'=>by go_simp;try with_reducible rfl) ?_;simp only [Act.put,sA]))
 refine aE ?_
 refine aT (by kernel_rfl) ?_
 have B5:Hid (Below w.heap.size w w4.drew):=hid B4.out.drew
 have SX5:Hid (SC w4.drew w.heap.size t v):=hid (SX4.out.below ((Below.refl _ _).drew))
 have BK5:Hid (dK w4.drew bb db t v):=hid (BK4.out.below ((Below.refl _ _).drew))
 generalize w4.drew = w5 at *
 clear SX4 BK4 ST4
 obtain ⟨x0,x1,_,_⟩:=SX5.out
 go_wp2_with fail
 go_ret
 unfold iJ
 rw [HV.out]
 exact ⟨rfl,HD.out.below B5.out,BK5.out,(Kept.bY B5.out).mono fun k _ h=>.inl h⟩

set_option maxRecDepth 20000 in
theorem aG2 (bb db mb tb:Nat) (D:aA) (t v t' v':Int) (w:World) (hd:aG w db mb tb D) (hw:aW D) (hs:D.steps + 4 <= 1000000000) (hk:dK w bb db t v) (hnb:¬ bB db mb tb bb) (ht0:0 <= t') (hsn:qE t' v' = true) (hm:vMy t v t' v' = true) (he:¬ (t' = t /\ v' = v)) :
  Calls Tryz.prog 150 #[.pointer (some ⟨bb,0,none⟩),.agg #[.int .u64 t',.int .i64 v']] w (iJ bb db mb tb D t v t' v' w):=by
 have HD:=hid hd
 have HW:=hid hw
 have HS:=hid hs
 have HNB:=hid hnb
 have HK:=hid hk
 have H3:=hid hd.lt3
 have HBL:=hid hk.lt
 have HSN:=hid hsn
 have HM:=hid hm
 have HV:Hid (dG D t v t' v' = cU D (frP 3 (bV [t'.toNat,(v' + 1).toNat]))):=hid (by unfold dG;rw [if_neg (by rw [hsn];decide),if_neg (by rw [hm];decide),if_neg he])
 have HQ:Hid (∀ (A B:Result Next),(if t' = t then (if v' = v then A else B) else B) = B):=hid (fun A B=>by
  by_cases h1:t' = t
  ·have h2:¬ v' = v:=fun h=>he ⟨h1,h⟩
   rw [if_pos h1,if_neg h2]
  ·rw [if_neg h1])
 have HBY:Hid (∀ W:World,Calls Tryz.prog 198 #[.agg #[.int .u64 t',.int .i64 v']] W fun e W'=>∃ bv,e = .returned bv /\ Bytes W' bv (frP 3 (bV [t'.toNat,(v' + 1).toNat])) /\ Below W.heap.size W W' /\ ∀ g,bv.ownBlock = some g -> W.heap.size <= g):=hid (fun W=>by
  have h:=hsn
  unfold qE at h
  simp only [Bool.and_eq_true,decide_eq_true_eq] at h
  have h1:=aEG t'.toNat (v' + 1).toNat W (by omega) (by omega)
  rw [show ((t'.toNat:Nat):Int) = t' by omega,show (((v' + 1).toNat:Nat):Int) - 1 = v' by omega] at h1
  exact h1)
 clear he
 clear hsn hm
 clear hd hw hs hnb hk
 go_enter Tryz.func150,Tryz.ntmps150
 go_wp2_with fail
 have SX1:=hid (SC.box w t' v')
 have A1:Hid (Below w.heap.size w (w.alloc (.cells #[.int .u64 t',.int .i64 v'] 97))):=hid ((Below.refl _ _).alloc (Nat.le_refl _) _)
 generalize World.alloc w _ = w1 at *
 have BK1:=hid (HK.out.below A1.out)
 refine (aDk bb db t v w1 BK1.out).mono ?_
 rintro e w2 ⟨rfl,rfl⟩
 obtain ⟨x0,x1,_,_⟩:=SX1.out
 go_wp2_with fail
 refine (iV t' v' w1).mono ?_
 rintro e w3 ⟨rfl,hb3⟩
 have SX:=hid (SX1.out.below hb3)
 have BK:=hid (BK1.out.below hb3)
 have B3:Hid (Below w.heap.size w w3):=hid (A1.out.trans (hb3.mono A1.out.size))
 rw [HSN.out]
 clear hb3 x0 x1
 go_wp2_with fail
 have ST:=aP.from w3
 refine aN [0,1,3,7,0,31,63,127] 0 (fun w'=>Below w3.heap.size w3 w') (by kernel_rfl) ?_
 refine aB [0,1,2,3,4] (by kernel_rfl) (L:=bm 8 31) (by kernel_rfl) (f':=3) rfl (fun _ _ _ _ h=>h) (fun w o h=>ST.alloc h o) (.inr (by first | exact Below.refl _ _ | exact (Below.refl _ _).drew)) ?_
 simp only [sF,sL]
 iterate 5 (first | (refine aQ _ (by rfl) (fun w' hs=>by obtain ⟨b0,b1,b2,_,_⟩:=BK.out.below hs;obtain ⟨x0,x1,_,_⟩:=SX.out.below hs;go_simp;first | with_reducible rfl | exact HQ.out _ _ | skip) rfl ?_;simp only [Act.put,sA]) | (refine aD _ (by rfl) (fun w'=>by go_simp;first | with_reducible rfl | exact HQ.out _ _ | skip) ?_;simp only [Act.put,sA]))
 refine aE ?_
 refine aI 5 (by kernel_rfl) (L:=bm 8 63) (by kernel_rfl) ?_
 simp only [sL]
 go_wp2_with fail;refine (aAa t v t' v' _).mono ?_;rintro e w4 ⟨rfl,hb4⟩;have I4:Hid (Below w3.heap.size w3 w4):=hid (by first | exact hb4 | exact ((Below.refl _ _).drew).trans hb4);clear hb4;rw [HM.out];go_wp2_with fail
 refine aF nofun ?_
 refine aB [6,7] (by kernel_rfl) (L:=bm 8 255) (by kernel_rfl) (f':=0) rfl (fun _ _ _ _ h=>h) (fun w o h=>ST.alloc h o) (.inl (by kernel_rfl)) ?_
 simp only [sF,sL]
 iterate 2 (refine aD _ (by rfl) (fun w'=>by go_simp;first | with_reducible rfl | exact HQ.out _ _ | skip) ?_;simp only [Act.put,sA])
 refine aE ?_
 refine aT (by kernel_rfl) ?_
 go_wp2_with fail
 have SX4:=hid (SX.out.below I4.out)
 have BK4:=hid (BK.out.below I4.out)
 have B4:Hid (Below w.heap.size w w4):=hid (B3.out.trans (I4.out.mono B3.out.size))
 clear SX BK ST
 have ST4:=aP.from w4
 refine aN [0,0,2,6,14,31,63] 0 (fun w'=>Below w4.heap.size w4 w') (by kernel_rfl) ?_
 refine aB [0,1,2,3,4,5,6] (by kernel_rfl) (L:=bm 7 127) (by kernel_rfl) (f':=0) rfl (fun _ _ _ _ h=>h) (fun w o h=>ST4.alloc h o) (.inr (by first | exact Below.refl _ _ | exact (Below.refl _ _).drew)) ?_
 simp only [sF,sL]
 iterate 7 (first | (refine aQ _ (by rfl) (fun w' hs=>by obtain ⟨b0,b1,b2,_,_⟩:=BK4.out.below hs;obtain ⟨x0,x1,_,_⟩:=SX4.out.below hs;go_simp;first | with_reducible rfl | exact HQ.out _ _ | skip) rfl ?_;simp only [Act.put,sA]) | (refine aD _ (by rfl) (fun w'=>by go_simp;first | with_reducible rfl | exact HQ.out _ _ | skip) ?_;simp only [Act.put,sA]))
 refine aE ?_
 refine aT (by kernel_rfl) ?_
 have B5:Hid (Below w.heap.size w w4.drew):=hid B4.out.drew
 have SX5:Hid (SC w4.drew w.heap.size t' v'):=hid (SX4.out.below ((Below.refl _ _).drew))
 have BK5:Hid (dK w4.drew bb db t v):=hid (BK4.out.below ((Below.refl _ _).drew))
 generalize w4.drew = w5 at *
 clear SX4 BK4 ST4
 obtain ⟨x0,x1,_,_⟩:=SX5.out
 go_wp2_with fail
 refine (HBY.out w5).mono ?_
 rintro e w6 ⟨bv,rfl,hBy,hb6,ho6⟩
 have BV:=hid hBy
 have HO:Hid (∀ g,bv.ownBlock = some g -> ¬ bB db mb tb g):=hid (fun g hg h=>by have h1:=H3.out _ h;have h2:=ho6 g hg;have h3:=B5.out.size;omega)
 have SX6:=hid (SX5.out.below hb6)
 have BK6:=hid (BK5.out.below hb6)
 have B6:Hid (Below w.heap.size w w6):=hid (B5.out.trans (hb6.mono B5.out.size))
 clear hBy hb6 ho6 x0 x1
 generalize frP 3 (bV [t'.toNat,(v' + 1).toNat]) = L at *
 obtain ⟨av,nv,cv,rfl⟩:∃ a n c,bv = Value.slice a n c:=by obtain ⟨a,c,e,_⟩:=BV.out.shape;exact ⟨a,_,c,e⟩
 go_wp2_with fail
 refine (aEP bb db mb tb D _ L w6 (HD.out.below B6.out) HW.out HS.out BK6.out.c0 HNB.out BV.out HO.out).mono ?_
 rintro e w7 ⟨rfl,hd7,hk7⟩
 obtain ⟨r,hr⟩:∃ r,cU D L = r:=⟨_,rfl⟩
 obtain ⟨D2,e2⟩:=r
 have HVV:Hid (dG D t v t' v' = (D2,e2)):=hid (HV.out.trans hr)
 rw [hr] at hd7 ⊢
 have D7:=hid hd7
 have NS:Hid (¬ bB db mb tb w.heap.size):=hid (fun h=>by have:=H3.out _ h;omega)
 have SX7:=hid (SX6.out.kept hk7 NS.out)
 have BK7:=hid (BK6.out.kept hk7 HNB.out)
 have K7:Hid (Kept w w7 (bB db mb tb)):=hid ((Kept.bY B6.out).trans hk7)
 clear hd7 hk7 hr
 obtain ⟨x0,x1,_,_⟩:=SX7.out
 obtain ⟨b0,b1,b2,g1,g2⟩:=BK7.out
 by_cases he:e2 = 0
 ·subst he
  have BK8:=hid (BK7.out.set t' v')
  have D8:=hid (D7.out.book BK7.out HNB.out t' v')
  have K8:Hid (Kept w ((w7.setCell ⟨bb,1,none⟩ (.int .u64 t')).setCell ⟨bb,2,none⟩ (.int .i64 v')) (fun k=>bB db mb tb k \/ k = bb)):=hid ((K7.out.mono fun k _ h=>.inl h).trans (((Kept.setCell w7 ⟨bb,1,none⟩ _).trans (Kept.setCell _ ⟨bb,2,none⟩ _)).mono fun k _ h=>.inr h))
  go_wp2_with fail
  go_ret
  unfold iJ
  rw [HVV.out]
  exact ⟨rfl,D8.out,BK8.out,K8.out⟩
 ·have heb:((e2:Int) != 0) = true:=by simp;omega
  have HE:=hid he
  clear he
  go_wp2_with fail
  go_ret
  unfold iJ
  rw [HVV.out]
  exact ⟨rfl,D7.out,by rw [if_neg HE.out,if_neg HE.out];exact BK7.out,K7.out.mono fun k _ h=>.inl h⟩

theorem aG0 (bb db mb tb:Nat) (D:aA) (t v t' v':Int) (w:World) (hd:aG w db mb tb D) (hw:aW D) (hs:D.steps + 4 <= 1000000000) (hk:dK w bb db t v) (hnb:¬ bB db mb tb bb) (ht0:0 <= t') :
  Calls Tryz.prog 150 #[.pointer (some ⟨bb,0,none⟩),.agg #[.int .u64 t',.int .i64 v']] w (iJ bb db mb tb D t v t' v' w):=by
 cases hsn:qE t' v'
 ·exact aG1 bb db mb tb D t v t' v' w hd hw hs hk hnb ht0 hsn
 ·cases hm:vMy t v t' v'
  ·exact aG3 bb db mb tb D t v t' v' w hd hw hs hk hnb ht0 hsn hm
  ·by_cases he:t' = t /\ v' = v
   ·obtain ⟨rfl,rfl⟩:=he
    exact aEH bb db mb tb D _ _ w hd hw hs hk hnb ht0 hsn hm
   ·exact aG2 bb db mb tb D t v t' v' w hd hw hs hk hnb ht0 hsn hm he
end Go.Proofs.YtjdglpcnkiioeaaGreat
