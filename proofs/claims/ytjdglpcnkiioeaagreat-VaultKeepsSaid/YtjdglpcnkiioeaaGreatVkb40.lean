/- Several texts in one: Vth, Vtj, Vtr, Vts, Vtk, Vtu for vltkeeps_law_holds. No conditions but those stated. -/
import Derived.Test.YtjdglpcnkiioeaaGreatVkb39
import Derived.Test.YtjdglpcnkiioeaaGreatVkb30
import Derived.Test.YtjdglpcnkiioeaaGreatVkb29
import Derived.Test.YtjdglpcnkiioeaaGreatVkb15
set_option maxHeartbeats 16000000
namespace Go.Proofs.YtjdglpcnkiioeaaGreat
open Go.Lib (hid)
open Go.RowKit Go.Maps Go.Proofs.Own Go.Shelf

structure VC (w:World) (vb:Nat) (p0 p1 p2:Option Addr):Prop where
 c0:w.cell? ⟨vb,0,none⟩ = some (.pointer p0)
 c1:w.cell? ⟨vb,1,none⟩ = some (.pointer p1)
 c2:w.cell? ⟨vb,2,none⟩ = some (.pointer p2)
 c3:w.cell? ⟨vb,3,none⟩ = some (.bool false)
 f0:w.frozen? ⟨vb,0,none⟩ = false
 f1:w.frozen? ⟨vb,1,none⟩ = false
 f2:w.frozen? ⟨vb,2,none⟩ = false
 f3:w.frozen? ⟨vb,3,none⟩ = false
 n8:eG w vb
theorem VC.lt {w:World} {vb:Nat} {p0 p1 p2:Option Addr} (h:VC w vb p0 p1 p2):vb < w.heap.size:=World.block_lt_of_cell? _ _ h.c0
theorem VC.kept {w w':World} {vb:Nat} {p0 p1 p2:Option Addr} {S:Nat -> Prop} (h:VC w vb p0 p1 p2) (hk:Kept w w' S) (hs:¬ S vb):VC w' vb p0 p1 p2 :=
 have hl:=h.lt
 ⟨hk.cell h.c0 hs,hk.cell h.c1 hs,hk.cell h.c2 hs,hk.cell h.c3 hs,(hk.frozen (a:=⟨vb,0,none⟩) hl hs).trans h.f0,(hk.frozen (a:=⟨vb,1,none⟩) hl hs).trans h.f1,(hk.frozen (a:=⟨vb,2,none⟩) hl hs).trans h.f2,(hk.frozen (a:=⟨vb,3,none⟩) hl hs).trans h.f3,h.n8.kept hk hl hs⟩
theorem VC.below {w w':World} {vb:Nat} {p0 p1 p2:Option Addr} (h:VC w vb p0 p1 p2) (hb:Below w.heap.size w w'):VC w' vb p0 p1 p2:=h.kept (Kept.aJ hb (S:=fun _=>False) fun k h1 h2=>by omega) id
theorem VC.new (w:World):VC (w.alloc (.cells #[.pointer none,.pointer none,.pointer none,.bool false] 111)) w.heap.size none none none :=
 ⟨by go_cell,by go_cell,by go_cell,by go_cell,by simp,by simp,by simp,by simp,eG.alloc (by simp)⟩
theorem VC.zJ {w:World} {vb:Nat} {p0 p1 p2:Option Addr} (h:VC w vb p0 p1 p2) (q:Addr):VC (w.setCell ⟨vb,0,none⟩ (.pointer (some q))) vb (some q) p1 p2 :=
 ⟨World.cell?_setCell_same _ _ _ h.c0,by rw [World.cell?_setCell_other _ _ _ _ (by simp)];exact h.c1,by rw [World.cell?_setCell_other _ _ _ _ (by simp)];exact h.c2,by rw [World.cell?_setCell_other _ _ _ _ (by simp)];exact h.c3,by rw [World.frozen?_setCell];exact h.f0,by rw [World.frozen?_setCell];exact h.f1,by rw [World.frozen?_setCell];exact h.f2,by rw [World.frozen?_setCell];exact h.f3,h.n8.set _ h.c0 (fun y e=>by cases e)⟩
theorem VC.sD {w:World} {vb:Nat} {p0 p1 p2:Option Addr} (h:VC w vb p0 p1 p2) (q:Addr):VC (w.setCell ⟨vb,1,none⟩ (.pointer (some q))) vb p0 (some q) p2 :=
 ⟨by rw [World.cell?_setCell_other _ _ _ _ (by simp)];exact h.c0,World.cell?_setCell_same _ _ _ h.c1,by rw [World.cell?_setCell_other _ _ _ _ (by simp)];exact h.c2,by rw [World.cell?_setCell_other _ _ _ _ (by simp)];exact h.c3,by rw [World.frozen?_setCell];exact h.f0,by rw [World.frozen?_setCell];exact h.f1,by rw [World.frozen?_setCell];exact h.f2,by rw [World.frozen?_setCell];exact h.f3,h.n8.set _ h.c1 (fun y e=>by cases e)⟩
theorem VC.kV {w:World} {vb:Nat} {p0 p1 p2:Option Addr} (h:VC w vb p0 p1 p2) (q:Addr):VC (w.setCell ⟨vb,2,none⟩ (.pointer (some q))) vb p0 p1 (some q) :=
 ⟨by rw [World.cell?_setCell_other _ _ _ _ (by simp)];exact h.c0,by rw [World.cell?_setCell_other _ _ _ _ (by simp)];exact h.c1,World.cell?_setCell_same _ _ _ h.c2,by rw [World.cell?_setCell_other _ _ _ _ (by simp)];exact h.c3,by rw [World.frozen?_setCell];exact h.f0,by rw [World.frozen?_setCell];exact h.f1,by rw [World.frozen?_setCell];exact h.f2,by rw [World.frozen?_setCell];exact h.f3,h.n8.set _ h.c2 (fun y e=>by cases e)⟩
theorem aV.make {w:World} {vb bb sb lb db mb tb n m:Nat} {ev fv:Value} {el:bE} {D:aA} {L:aM} {s:aZ} {t v:Int} (hv:VC w vb (some ⟨bb,0,none⟩) (some ⟨sb,0,none⟩) (some ⟨lb,0,none⟩)) (hb:dK w bb db t v) (hs:cM (fun k=>n <= k /\ k < m) w sb db mb tb s) (hl:bD w lb db mb tb ev fv el D L)
  (h0:∀ k,bB db mb tb k -> k < vb) (h1:vb < bb) (h2:bb < n) (h3:n <= sb) (h4:sb < m) (h5:m <= lb) (h6:∀ k,ev.ownBlock = some k -> m <= k) (h7:∀ k,fv.ownBlock = some k -> m <= k) (hok:s = iO \/ 1 <= s.i):aV w ⟨vb,bb,sb,lb,db,mb,tb,fun _=>True⟩ ev fv el D ⟨t,v,s,L,false⟩:=by
 have hn:∀ k,vb <= k -> k < m -> ¬ jR lb db mb tb ev fv k:=fun k q1 q2 e=>by
  rcases e with e | e | e | e
  ·omega
  ·have:=h0 k e;omega
  ·have:=h6 k e;omega
  ·have:=h7 k e;omega
 exact ⟨hv.c0,hv.c1,hv.c2,hv.c3,hv.f3,hv.n8,hb,hs.sM fun k q _=>⟨by dsimp only;omega,by dsimp only;omega,hn k (by omega) (by omega),trivial⟩,hl,hn vb (Nat.le_refl _) (by omega),⟨by dsimp only;omega,hn bb (by omega) (by omega)⟩,⟨by dsimp only;omega,by dsimp only;omega,hn sb (by omega) (by omega)⟩,hok,fun _ _=>trivial⟩
def xN (db mb tb:Nat) (D:aA) (V:cB) (w:World):Ending -> World -> Prop:=fun e w'=>∃ (b:VB) (ev fv:Value) (el:bE),e = .returned (.tuple #[.pointer (some ⟨b.vb,0,none⟩),.int .i64 0]) /\ b.db = db /\ b.mb = mb /\ b.tb = tb /\ aV w' b ev fv el D V /\ Kept w w' (bB db mb tb) /\ ∀ k,gH b ev fv k -> bB db mb tb k \/ w.heap.size <= k
theorem aIL {db mb tb:Nat} {D:aA} {w:World} (h:aG w db mb tb D) (hg:aW D) (hst:D.steps + 1000 <= 1000000000) (n:Nat) {D3:aA} {L:aM} (h3:fD D n = (D3,some L,0)) :
  Calls Tryz.prog 19 #[.pointer (some ⟨db,0,none⟩),.int .u64 n] w fun E w'=>Kept w w' (bB db mb tb) /\ ∃ lb ev fv el,E = .returned (.tuple #[.pointer (some ⟨lb,0,none⟩),.int .i64 0]) /\ bD w' lb db mb tb ev fv el D3 L /\ w.heap.size <= lb /\ (∀ b,ev.ownBlock = some b -> w.heap.size <= b) /\ ∀ b,fv.ownBlock = some b -> w.heap.size <= b:=by
 have hWO:Calls Tryz.prog 19 #[.pointer (some ⟨db,0,none⟩),.int .u64 n] w (aDz db mb tb (fD D n) w):=by
  by_cases he:D.down = true \/ H59 <= n
  ·exact aDt h n he
  ·exact aEU h hg hst n (fun q=>he (.inl q)) (fun q=>he (.inr q))
 rw [h3] at hWO
 refine hWO.mono ?_
 rintro E w' ⟨_,hk,_,hs⟩
 obtain ⟨lb,ev,fv,el,e,hl,q⟩:=hs L rfl
 exact ⟨hk,lb,ev,fv,el,e,hl,q⟩
set_option maxRecDepth 20000 in
theorem sN {db mb tb:Nat} {D:aA} {w:World} (hd:aG w db mb tb D) (hg:aW D) (hst:D.steps + 2000 <= 1000000000) {D1 D3:aA} {L:aM} {n:Nat} (h1:dJ D = (D1,0)) (h2:gW D1 = 0) (hn:(dM D1).i = n)
  (h3:fD (bZ D1).1 n = (D3,some L,0)) (hl:L.last <= H59) (hes:L.es.length <= 2147483648)
  {D4:aA} {L4:aM} (hno:(∀ y,atW L n = some y -> y.t = (dM D1).t) -> D4 = D3 /\ L4 = L) (hyes:∀ y,atW L n = some y -> y.t ≠ (dM D1).t -> bI D3 L n = (D4,L4,0) /\ aW D3 /\ LOk L /\ D3.steps + L.fs.length <= 1000000000 /\ L.fs.length <= 1000000) :
  Calls Tryz.prog 41 #[.pointer (some ⟨db,0,none⟩)] w (xN db mb tb D4 ⟨(eB D).t,(eB D).v,dM D1,L4,false⟩ w):=by
 have hg1:=wW hg (by omega)
 rw [h1] at hg1
 dsimp only at hg1
 have hg2:=nV hg1.1 (by omega)
 have HD:=hid hd
 have HG:=hid hg
 have HG1:=hid hg1.1
 have HG2:=hid hg2.1
 have HS:Hid (D.steps + 2 <= 1000000000):=hid (by omega)
 have HS2:Hid ((bZ D1).1.steps + 1000 <= 1000000000):=hid (by omega)
 have HE1:=hid h1
 have HE2:=hid h2
 have HE3:=hid h3
 have HN:=hid hn
 have HLL:=hid hl
 have HLN:=hid hes
 obtain ⟨xt,hxt⟩:∃ xt,(dM D1).t = xt:=⟨_,rfl⟩
 have HT:=hid hxt
 have HV:Hid (¬ bB db mb tb w.heap.size):=hid fun e=>by have:=hd.lt3 _ e;omega
 have HO3:Hid (∀ k,bB db mb tb k -> k < w.heap.size):=hid hd.lt3
 obtain ⟨yt,hyt⟩:∃ yt,((atW L n).getD ⟨0,0,[]⟩).t = yt:=⟨_,rfl⟩
 obtain ⟨yk,hyk⟩:∃ yk,((atW L n).getD ⟨0,0,[]⟩).k = yk:=⟨_,rfl⟩
 obtain ⟨okk,hyo⟩:∃ okk,(atW L n).isSome = okk:=⟨_,rfl⟩
 have HYT:=hid hyt
 have HYK:=hid hyk
 have HYS:=hid hyo
 have HNO:Hid ((okk = true -> (yt != xt) = false) -> D4 = D3 /\ L4 = L):=hid fun q=>hno fun y hy=>by
  rw [hy] at hyt hyo
  have:=q hyo.symm
  rw [hxt,<- bne_eq_false_iff_eq,<- this,<- hyt]
  rfl
 have HYES:Hid (okk = true -> (yt != xt) = true -> bI D3 L n = (D4,L4,0) /\ aW D3 /\ LOk L /\ D3.steps + L.fs.length <= 1000000000 /\ L.fs.length <= 1000000):=hid fun q q2=>by
  obtain ⟨y,hy⟩:=Option.isSome_iff_exists.1 (hyo.trans q)
  rw [hy] at hyt
  exact hyes y hy (by rw [hxt,show y.t = yt from hyt];exact bne_iff_ne.1 q2)
 clear hd hg hst h1 h2 h3 hn hl hes hg1 hg2 hxt hno hyes hyt hyk hyo
 go_enter Tryz.func41,Tryz.ntmps41
 go_wp2_with fail
 generalize hW1:World.alloc w _ = W1
 have B1:Hid (Below w.heap.size w W1):=hid (by subst hW1;exact (Below.refl _ _).alloc (Nat.le_refl _) _)
 have V1:Hid (VC W1 w.heap.size none none none):=hid (by subst hW1;exact VC.new w)
 have HD1:=hid (HD.out.below B1.out)
 have K1:Hid (Kept w W1 (bB db mb tb)):=hid (Kept.aJ B1.out fun k h1 h2=>by omega)
 clear hW1
 refine (aG5 db mb tb D W1 HD1.out HG.out HS.out).mono ?_
 rintro e w2 ⟨_,hok,hd2,hk2⟩
 rw [HE1.out] at hok hd2
 obtain ⟨bb,rfl,hbk,hbb⟩:=hok rfl
 have V2:=hid (V1.out.kept hk2 HV.out)
 have HB2:=hid hbk
 have HD2:=hid hd2
 have K2:=hid (K1.out.trans hk2)
 have HBB:Hid (w.heap.size < bb):=hid (Nat.lt_of_lt_of_le V1.out.lt hbb)
 clear hok hd2 hk2 hbk hbb HD1
 obtain ⟨v0,v1,v2,v3,f0,f1,f2,f3,_⟩:=V2.out
 dsimp only
 go_wp2_with fail
 generalize hW3:World.setCell w2 _ _ = W3
 have KS3:Hid (Kept w2 W3 (fun k=>k = w.heap.size)):=hid (by subst hW3;exact Kept.setCell w2 ⟨w.heap.size,0,none⟩ _)
 have V3:Hid (VC W3 w.heap.size (some ⟨bb,0,none⟩) none none):=hid (by subst hW3;exact V2.out.zJ _)
 have HD3:Hid (aG W3 db mb tb D1):=hid (HD2.out.dT KS3.out (fun k h1 h2=>HV.out (h2 ▸ h1)) (fun k e j y hy=>by subst e;exact V2.out.n8 j y hy))
 have HB3:Hid (dK W3 bb db (eB D).t (eB D).v):=hid (HB2.out.kept KS3.out (fun e=>by have:=HBB.out;omega))
 have K3:=hid (K2.out.iG KS3.out (Nat.le_refl _))
 clear hW3 v0 v1 v2 v3 f0 f1 f2 f3 HD2 HB2 KS3 K2
 refine (aGK (fun k=>W3.heap.size <= k) db mb tb D1 W3 (fun b h=>h) HD3.out HG1.out HE2.out).mono ?_
 rintro e w4 ⟨_,hok,hd4,hk4⟩
 obtain ⟨sb,rfl,hst,hsb⟩:=hok HE2.out
 have V4:=hid (V3.out.kept hk4 HV.out)
 have HST4:=hid hst
 have HD4:=hid hd4
 have HB4:=hid (HB3.out.kept hk4 (fun e=>by have:=HO3.out _ e;have:=HBB.out;omega))
 have K4:=hid (K3.out.trans hk4)
 have HSB:Hid (W3.heap.size <= sb):=hid hsb
 have SZ3:Hid (w.heap.size < W3.heap.size /\ bb < W3.heap.size):=hid ⟨V3.out.lt,HB3.out.lt⟩
 clear hok hd4 hk4 hst hsb
 obtain ⟨v0,v1,v2,v3,f0,f1,f2,f3,_⟩:=V4.out
 dsimp only
 go_wp2_with fail
 generalize hW5:World.setCell w4 _ _ = W5'
 have KS5:Hid (Kept w4 W5' (fun k=>k = w.heap.size)):=hid (by subst hW5;exact Kept.setCell w4 ⟨w.heap.size,1,none⟩ _)
 have V5:Hid (VC W5' w.heap.size (some ⟨bb,0,none⟩) (some ⟨sb,0,none⟩) none):=hid (by subst hW5;exact V4.out.sD _)
 have HD5:Hid (aG W5' db mb tb (bZ D1).1):=hid (HD4.out.dT KS5.out (fun k h1 h2=>HV.out (h2 ▸ h1)) (fun k e j y hy=>by subst e;exact V4.out.n8 j y hy))
 have HB5:Hid (dK W5' bb db (eB D).t (eB D).v):=hid (HB4.out.kept KS5.out (fun e=>by have:=HBB.out;omega))
 have HST5:Hid (cM (fun k=>W3.heap.size <= k) W5' sb db mb tb (dM D1)):=hid (HST4.out.nW KS5.out (fun e=>by have:=HSB.out;have:=SZ3.out;omega) (fun k e=>.inr fun q=>by have:=SZ3.out;omega))
 have K5:=hid (K4.out.iG KS5.out (Nat.le_refl _))
 clear hW5 v0 v1 v2 v3 f0 f1 f2 f3 HD4 HB4 HST4 KS5 K4 HD3 HB3 K3
 refine (aC1 (some ⟨sb,0,none⟩) db mb tb (dM D1) W5' (.inr ⟨sb,rfl,HST5.out.is,aAZ D1⟩)).mono ?_
 rintro e w6 ⟨i,t,mv,dv,rfl,hs,hb6⟩
 obtain ⟨e1,e2,⟨am,nm,cm,rfl⟩,⟨ad,nd,cd,rfl⟩⟩:=hs.sH
 rw [HN.out] at e1
 rw [HT.out] at e2
 subst e1 e2
 have B6:=hid hb6
 clear hs hb6
 dsimp only
 go_wp2_with fail
 generalize hW7:World.alloc w6 _ = W7
 have B7:Hid (Below W5'.heap.size W5' W7):=hid (by subst hW7;exact B6.out.alloc B6.out.size _)
 have X7:Hid (bX W7 w6.heap.size n t (.slice am nm cm) (.slice ad nd cd)):=hid (by subst hW7;exact bX.box w6 _ _ _ _)
 clear hW7
 have V7:=hid (V5.out.below B7.out)
 have HD7:=hid (HD5.out.below B7.out)
 have HB7:=hid (HB5.out.below B7.out)
 have HST7:Hid (cM (fun k=>W3.heap.size <= k /\ k < W7.heap.size) W7 sb db mb tb (dM D1)):=hid ((HST5.out.below B7.out).sM fun k h1 h2=>⟨h1,h2⟩)
 have K7:Hid (Kept w W7 (bB db mb tb)):=hid (K5.out.trans (Kept.aJ B7.out fun k h1 h2=>by omega))
 have SX:Hid (w.heap.size <= w6.heap.size /\ w.heap.size < w6.heap.size):=hid (by have:=B6.out.size;have:=V5.out.lt;omega)
 clear V5 HD5 HB5 HST5 K5
 refine (aIL HD7.out HG2.out HS2.out n HE3.out).mono ?_
 rintro e w8 ⟨hk8,lb,ev,fv,el,rfl,hl8,hlb,hev,hfv⟩
 have V8:=hid (V7.out.kept hk8 HV.out)
 have X8:=hid (X7.out.kept hk8 (fun e=>by have:=HO3.out _ e;have:=SX.out;omega))
 have HB8:=hid (HB7.out.kept hk8 (fun e=>by have:=HO3.out _ e;have:=HBB.out;omega))
 have HST8:=hid (HST7.out.kept hk8)
 have K8:=hid (K7.out.trans hk8)
 have HL8:=hid hl8
 have SZ7:Hid (W3.heap.size <= W7.heap.size /\ W7.heap.size <= lb /\ sb < W7.heap.size):=hid ⟨by have:=HST7.out.lt;have:=HSB.out;omega,hlb,HST7.out.lt⟩
 have HEV:=hid hev
 have HFV:=hid hfv
 clear hk8 hl8 hlb hev hfv
 obtain ⟨v0,v1,v2,v3,f0,f1,f2,f3,_⟩:=V8.out
 dsimp only
 go_wp2_with fail
 generalize hW9:World.setCell w8 _ _ = W9
 have KS9:Hid (Kept w8 W9 (fun k=>k = w.heap.size)):=hid (by subst hW9;exact Kept.setCell w8 ⟨w.heap.size,2,none⟩ _)
 have V9:Hid (VC W9 w.heap.size (some ⟨bb,0,none⟩) (some ⟨sb,0,none⟩) (some ⟨lb,0,none⟩)):=hid (by subst hW9;exact V8.out.kV _)
 have HLV:Hid (¬ jR lb db mb tb ev fv w.heap.size):=hid fun e=>by
  have:=SZ3.out;have:=SZ7.out
  rcases e with e | e | e | e
  ·omega
  ·exact HV.out e
  ·have:=HEV.out _ e;omega
  ·have:=HFV.out _ e;omega
 have HD9:Hid (aG W9 db mb tb D3):=hid (HL8.out.dN.dT KS9.out (fun k h1 h2=>HV.out (h2 ▸ h1)) (fun k e j y hy=>by subst e;exact V8.out.n8 j y hy))
 have HL9:=hid (HL8.out.aside HD9.out (KS9.out.mono fun _ _ e=>.inr e) HLV.out V8.out.n8)
 have HB9:=hid (HB8.out.kept KS9.out (fun e=>by have:=HBB.out;omega))
 have HST9:=hid (HST8.out.nW KS9.out (fun e=>by have:=HSB.out;have:=SZ3.out;omega) (fun k e=>.inr fun q=>by have:=SZ3.out;omega))
 have X9:=hid (X8.out.kept KS9.out (fun e=>by have:=SX.out;omega))
 have KK:=hid (K8.out.iG KS9.out (Nat.le_refl _))
 have H9:Hid (aV W9 ⟨w.heap.size,bb,sb,lb,db,mb,tb,fun _=>True⟩ ev fv el D3 ⟨(eB D).t,(eB D).v,dM D1,L,false⟩):=hid (aV.make V9.out HB9.out HST9.out HL9.out HO3.out HBB.out SZ3.out.2 HSB.out SZ7.out.2.2 SZ7.out.2.1 HEV.out HFV.out (aAZ D1))
 have OWN:Hid (∀ k,gH ⟨w.heap.size,bb,sb,lb,db,mb,tb,fun _=>True⟩ ev fv k -> bB db mb tb k \/ w.heap.size <= k):=hid fun k h=>by
  have:=HBB.out;have:=HSB.out;have:=SZ3.out;have:=SZ7.out
  rcases h with h | h | h | h | h | h | h
  ·right;dsimp only at h;omega
  ·right;dsimp only at h;omega
  ·right;dsimp only at h;omega
  ·right;dsimp only at h;omega
  ·exact .inl h
  ·right;have:=HEV.out _ h;omega
  ·right;have:=HFV.out _ h;omega
 clear hW9 v0 v1 v2 v3 f0 f1 f2 f3 KS9 V9 HLV HD9 HL9 HB9 HST9 X8 V8 HB8 HST8 HL8 K8 V7 X7 HD7 HB7 HST7 K7
 have ST9:=aP.from W9
 go_wp2_with fail
 refine aN [0,1,3,7,15,0,32,127,255,511,511,0,3071,8191] 0 (fun w'=>Below W9.heap.size W9 w') (by kernel_rfl) ?_
 refine aB [0,1,2,3,4,5,6] (by kernel_rfl) (L:=bm 14 127) (by kernel_rfl) (f':=7) rfl (fun _ _ _ _ h=>h) (fun w o h=>ST9.alloc h o) (.inr (by first | exact Below.refl _ _ | exact (Below.refl _ _).drew)) ?_
 simp only [sF,sL]
 iterate 7 (first | (refine aQ _ (by rfl) (fun w' hs=>by have c2:=(H9.out.below hs).c2;obtain ⟨x0,x1,x2,x3,_,_,_,_⟩:=X9.out.below hs;go_simp;try with_reducible rfl) rfl ?_;simp only [Act.put,sA]) | (refine aD _ (by rfl) (fun w'=>by go_simp;try with_reducible rfl) ?_;simp only [Act.put,sA]))
 refine aE ?_
 refine aA0 7 11 (by kernel_rfl) (Lj:=bm 14 255) (Lk:=bm 14 2175) (by kernel_rfl) (by kernel_rfl) ?_ ?_
 ·simp only [sL]
  go_wp2_with fail
  refine (aFu (H9.out.below ((Below.refl W9.heap.size W9).drew)).log HLL.out HLN.out n HYT.out HYK.out HYS.out).mono ?_
  rintro e w3 ⟨a,en,ec,rfl,hb3⟩
  have B3:Hid (Below W9.heap.size W9 w3):=hid (((Below.refl W9.heap.size W9).drew).trans (hb3.mono ((Below.refl W9.heap.size W9).drew).size))
  clear hb3
  go_wp2_with fail
  refine aF nofun ?_
  refine aB [8,9,10] (by kernel_rfl) (L:=bm 14 2047) (by kernel_rfl) (f':=3) rfl (fun _ _ _ _ h=>h) (fun w o h=>ST9.alloc h o) (.inl (by kernel_rfl)) ?_
  simp only [sF,sL]
  iterate 3 (refine aD _ (by rfl) (fun w'=>by go_simp;try with_reducible rfl) ?_;simp only [Act.put,sA])
  refine aE ?_
  refine aI 11 (by kernel_rfl) (L:=bm 14 4095) (by kernel_rfl) ?_
  simp only [sL]
  go_wp2_with fail
  have E4:Hid (EC (w3.alloc (.cells #[.int .u64 0,.int .i64 0,.slice none 0 0] 38)) w3.heap.size 0 0 (.slice none 0 0)):=hid (EC.box w3)
  have LB:Hid (W9.heap.size <= w3.heap.size):=hid B3.out.size
  have B4:Hid (Below W9.heap.size W9 (w3.alloc (.cells #[.int .u64 0,.int .i64 0,.slice none 0 0] 38))):=hid (B3.out.alloc B3.out.size _)
  generalize World.alloc w3 _ = W4 at *
  generalize hEB:w3.heap.size = eb at *
  refine aF nofun ?_
  refine aI 12 (by kernel_rfl) (L:=bm 14 8191) (by kernel_rfl) ?_
  simp only [sL]
  obtain ⟨q0,q1,q2,g0,g1,g2⟩:=E4.out
  go_wp2_with fail
  have E5:Hid (EC _ _ yt yk (.slice a en ec)):=hid ((E4.out.set yt yk).put (.slice a en ec))
  have B5:Hid (Below W9.heap.size W9 _):=hid (B4.out.trans ((EC.oV W4 eb (.int .u64 yt) (.int .i64 yk) (.slice a en ec)).below B4.out.size fun k e=>by have:=LB.out;omega))
  generalize World.setCell _ _ _ = W5 at *
  clear q0 q1 q2 g0 g1 g2
  refine aF nofun ?_
  refine aB [13] (by kernel_rfl) (L:=bm 14 16383) (by kernel_rfl) (f':=0) rfl (fun _ _ _ _ h=>h) (fun w o h=>ST9.alloc h o) (.inl (by kernel_rfl)) ?_
  simp only [sF,sL]
  iterate 1 (refine aD _ (by rfl) (fun w'=>by go_simp;try with_reducible rfl) ?_;simp only [Act.put,sA])
  refine aE ?_
  refine aT (by kernel_rfl) ?_
  have H5:=hid (H9.out.below B5.out)
  obtain ⟨x0,x1,x2,x3,_,_,_,_⟩:=X9.out.below B5.out
  obtain ⟨q0,_,_,_,_,_⟩:=E5.out
  have KF:Hid (Kept w W5 (bB db mb tb)):=hid (KK.out.andThen (Kept.aJ B5.out (S:=fun _=>False) fun k h1 h2=>by omega) fun k hk h=>h.elim id False.elim)
  clear E4 LB B4 ST9
  cases okk with
  | false =>
   go_wp2_with fail
   refine bodyPost_ret (v:=.tuple #[.pointer (some ⟨w.heap.size,0,none⟩),.int .i64 0]) (by simp [results,Tryz.results41,go_sem]) rfl ?_
   rw [(HNO.out (fun e=>by cases e)).1,(HNO.out (fun e=>by cases e)).2]
   exact ⟨⟨w.heap.size,bb,sb,lb,db,mb,tb,fun _=>True⟩,ev,fv,el,rfl,rfl,rfl,rfl,H5.out,KF.out,OWN.out⟩
  | true =>
   cases hx:(yt != t) with
   | false =>
    have HX:=hid hx
    go_wp2_with fail
    refine bodyPost_ret (v:=.tuple #[.pointer (some ⟨w.heap.size,0,none⟩),.int .i64 0]) (by simp [results,Tryz.results41,go_sem]) rfl ?_
    rw [(HNO.out (fun _=>HX.out)).1,(HNO.out (fun _=>HX.out)).2]
    exact ⟨⟨w.heap.size,bb,sb,lb,db,mb,tb,fun _=>True⟩,ev,fv,el,rfl,rfl,rfl,rfl,H5.out,KF.out,OWN.out⟩
   | true =>
    obtain ⟨hr,hg3,hokl,hsr,hfs⟩:=HYES.out rfl hx
    have HRS:=hid hr
    have HG3:=hid hg3
    have HOKL:=hid hokl
    have HSR:=hid hsr
    have HFS:=hid hfs
    clear hr hg3 hokl hsr hfs
    have X5:=hid (X9.out.below B5.out)
    have ST5:=aP.from W5
    go_wp2_with fail
    clear x0 x1 x2 x3 q0
    refine aN [0,1,3,7,15,0,32,127,255] 0 (fun w'=>Below W5.heap.size W5 w') (by kernel_rfl) ?_
    refine aB [0,1,2,3,4,5,6] (by kernel_rfl) (L:=bm 9 127) (by kernel_rfl) (f':=2) rfl (fun _ _ _ _ h=>h) (fun w o h=>ST5.alloc h o) (.inr (by first | exact Below.refl _ _ | exact (Below.refl _ _).drew)) ?_
    simp only [sF,sL]
    iterate 7 (first | (refine aQ _ (by rfl) (fun w' hs=>by have c2:=(H5.out.below hs).c2;obtain ⟨x0,x1,x2,x3,_,_,_,_⟩:=X5.out.below hs;go_simp;try with_reducible rfl) rfl ?_;simp only [Act.put,sA]) | (refine aD _ (by rfl) (fun w'=>by go_simp;try with_reducible rfl) ?_;simp only [Act.put,sA]))
    refine aE ?_
    refine aI 7 (by kernel_rfl) (L:=bm 9 255) (by kernel_rfl) ?_
    simp only [sL]
    go_wp2_with fail;refine (qG (H5.out.below (Below.refl W5.heap.size W5).drew).log HG3.out HOKL.out HSR.out HFS.out n).mono ?_;rintro e w6 ⟨rfl,ev6,fv6,el6,hl6,hs6⟩;rw [HRS.out] at hl6 ⊢;have H6:=hid ((H5.out.below (Below.refl W5.heap.size W5).drew).kT hl6 hs6);have VS6:Hid (cN ⟨w.heap.size,bb,sb,lb,db,mb,tb,fun _=>True⟩ W5 ev fv w6 ev6 fv6):=hid ((cN.below (b:=⟨w.heap.size,bb,sb,lb,db,mb,tb,fun _=>True⟩) (ev:=ev) (fv:=fv) (Below.refl W5.heap.size W5).drew).trans (cN.kU (b:=⟨w.heap.size,bb,sb,lb,db,mb,tb,fun _=>True⟩) hs6));clear hl6 hs6;dsimp only;go_wp2_with fail
    refine aF nofun ?_
    refine aI 8 (by kernel_rfl) (L:=bm 9 511) (by kernel_rfl) ?_
    simp only [sL]
    go_wp2_with fail
    refine aF nofun ?_
    refine aT (by kernel_rfl) ?_
    go_wp2_with fail
    refine bodyPost_ret (v:=.tuple #[.pointer (some ⟨w.heap.size,0,none⟩),.int .i64 0]) (by simp [results,Tryz.results41,go_sem]) rfl ?_
    have KF6:Hid (Kept w w6 (bB db mb tb)):=hid (Kept.andThen KF.out VS6.out.1 (by
     intro k hk h
     rcases h with h | h
     ·exact h
     ·rcases OWN.out k h with q | q
      ·exact q
      ·exact absurd hk (Nat.not_lt.2 q)))
    refine ⟨⟨w.heap.size,bb,sb,lb,db,mb,tb,fun _=>True⟩,ev6,fv6,el6,rfl,rfl,rfl,rfl,H6.out,KF6.out,fun k h=>?_⟩
    rcases h with h | h | h | h | h | h | h
    ·exact OWN.out k (.inl h)
    ·exact OWN.out k (.inr (.inl h))
    ·exact OWN.out k (.inr (.inr (.inl h)))
    ·exact OWN.out k (.inr (.inr (.inr (.inl h))))
    ·exact .inl h
    ·rcases VS6.out.2.1 k h with h | h
     ·exact OWN.out k (.inr (.inr (.inr (.inr (.inr (.inl h))))))
     ·exact .inr (Nat.le_trans KF.out.size h)
    ·rcases VS6.out.2.2 k h with h | h
     ·exact OWN.out k (.inr (.inr (.inr (.inr (.inr (.inr h))))))
     ·exact .inr (Nat.le_trans KF.out.size h)
 ·simp only [sL]
  go_wp2_with fail
  have E3:Hid (EC (W9.alloc (.cells #[.int .u64 0,.int .i64 0,.slice none 0 0] 38)).drew W9.heap.size 0 0 (.slice none 0 0)):=hid ((EC.box W9).below (Below.refl _ _).drew)
  have B4:Hid (Below W9.heap.size W9 (W9.alloc (.cells #[.int .u64 0,.int .i64 0,.slice none 0 0] 38)).drew):=hid ((Below.refl W9.heap.size W9).alloc (Nat.le_refl _) _).drew
  generalize World.alloc W9 _ = W3' at *
  refine aF nofun ?_
  refine aI 7 (by kernel_rfl) (L:=bm 14 2303) (by kernel_rfl) ?_
  simp only [sL]
  go_wp2_with fail
  refine (aFu (H9.out.below B4.out).log HLL.out HLN.out n HYT.out HYK.out HYS.out).mono ?_
  rintro e w3 ⟨a,en,ec,rfl,hb3⟩
  have B3:Hid (Below W9.heap.size W9 w3):=hid (B4.out.trans (hb3.mono B4.out.size))
  have E4:=hid (E3.out.below hb3)
  have LB:=hid (Nat.le_refl W9.heap.size)
  clear hb3
  go_wp2_with fail
  refine aF nofun ?_
  refine aB [8,9,10] (by kernel_rfl) (L:=bm 14 4095) (by kernel_rfl) (f':=2) rfl (fun _ _ _ _ h=>h) (fun w o h=>ST9.alloc h o) (.inl (by kernel_rfl)) ?_
  simp only [sF,sL]
  iterate 3 (refine aD _ (by rfl) (fun w'=>by go_simp;try with_reducible rfl) ?_;simp only [Act.put,sA])
  refine aE ?_
  refine aI 12 (by kernel_rfl) (L:=bm 14 8191) (by kernel_rfl) ?_
  simp only [sL]
  obtain ⟨q0,q1,q2,g0,g1,g2⟩:=E4.out
  go_wp2_with fail
  have E5:Hid (EC _ _ yt yk (.slice a en ec)):=hid ((E4.out.set yt yk).put (.slice a en ec))
  have B5:Hid (Below W9.heap.size W9 _):=hid (B3.out.trans ((EC.oV w3 W9.heap.size (.int .u64 yt) (.int .i64 yk) (.slice a en ec)).below B3.out.size fun k e=>by omega))
  generalize World.setCell _ _ _ = W5 at *
  clear q0 q1 q2 g0 g1 g2
  refine aF nofun ?_
  refine aB [13] (by kernel_rfl) (L:=bm 14 16383) (by kernel_rfl) (f':=0) rfl (fun _ _ _ _ h=>h) (fun w o h=>ST9.alloc h o) (.inl (by kernel_rfl)) ?_
  simp only [sF,sL]
  iterate 1 (refine aD _ (by rfl) (fun w'=>by go_simp;try with_reducible rfl) ?_;simp only [Act.put,sA])
  refine aE ?_
  refine aT (by kernel_rfl) ?_
  have H5:=hid (H9.out.below B5.out)
  obtain ⟨x0,x1,x2,x3,_,_,_,_⟩:=X9.out.below B5.out
  obtain ⟨q0,_,_,_,_,_⟩:=E5.out
  have KF:Hid (Kept w W5 (bB db mb tb)):=hid (KK.out.andThen (Kept.aJ B5.out (S:=fun _=>False) fun k h1 h2=>by omega) fun k hk h=>h.elim id False.elim)
  clear E4 LB B4 ST9
  cases okk with
  | false =>
   go_wp2_with fail
   refine bodyPost_ret (v:=.tuple #[.pointer (some ⟨w.heap.size,0,none⟩),.int .i64 0]) (by simp [results,Tryz.results41,go_sem]) rfl ?_
   rw [(HNO.out (fun e=>by cases e)).1,(HNO.out (fun e=>by cases e)).2]
   exact ⟨⟨w.heap.size,bb,sb,lb,db,mb,tb,fun _=>True⟩,ev,fv,el,rfl,rfl,rfl,rfl,H5.out,KF.out,OWN.out⟩
  | true =>
   cases hx:(yt != t) with
   | false =>
    have HX:=hid hx
    go_wp2_with fail
    refine bodyPost_ret (v:=.tuple #[.pointer (some ⟨w.heap.size,0,none⟩),.int .i64 0]) (by simp [results,Tryz.results41,go_sem]) rfl ?_
    rw [(HNO.out (fun _=>HX.out)).1,(HNO.out (fun _=>HX.out)).2]
    exact ⟨⟨w.heap.size,bb,sb,lb,db,mb,tb,fun _=>True⟩,ev,fv,el,rfl,rfl,rfl,rfl,H5.out,KF.out,OWN.out⟩
   | true =>
    obtain ⟨hr,hg3,hokl,hsr,hfs⟩:=HYES.out rfl hx
    have HRS:=hid hr
    have HG3:=hid hg3
    have HOKL:=hid hokl
    have HSR:=hid hsr
    have HFS:=hid hfs
    clear hr hg3 hokl hsr hfs
    have X5:=hid (X9.out.below B5.out)
    have ST5:=aP.from W5
    go_wp2_with fail
    clear x0 x1 x2 x3 q0
    refine aN [0,1,3,7,15,0,32,127,255] 0 (fun w'=>Below W5.heap.size W5 w') (by kernel_rfl) ?_
    refine aB [0,1,2,3,4,5,6] (by kernel_rfl) (L:=bm 9 127) (by kernel_rfl) (f':=2) rfl (fun _ _ _ _ h=>h) (fun w o h=>ST5.alloc h o) (.inr (by first | exact Below.refl _ _ | exact (Below.refl _ _).drew)) ?_
    simp only [sF,sL]
    iterate 7 (first | (refine aQ _ (by rfl) (fun w' hs=>by have c2:=(H5.out.below hs).c2;obtain ⟨x0,x1,x2,x3,_,_,_,_⟩:=X5.out.below hs;go_simp;try with_reducible rfl) rfl ?_;simp only [Act.put,sA]) | (refine aD _ (by rfl) (fun w'=>by go_simp;try with_reducible rfl) ?_;simp only [Act.put,sA]))
    refine aE ?_
    refine aI 7 (by kernel_rfl) (L:=bm 9 255) (by kernel_rfl) ?_
    simp only [sL]
    go_wp2_with fail;refine (qG (H5.out.below (Below.refl W5.heap.size W5).drew).log HG3.out HOKL.out HSR.out HFS.out n).mono ?_;rintro e w6 ⟨rfl,ev6,fv6,el6,hl6,hs6⟩;rw [HRS.out] at hl6 ⊢;have H6:=hid ((H5.out.below (Below.refl W5.heap.size W5).drew).kT hl6 hs6);have VS6:Hid (cN ⟨w.heap.size,bb,sb,lb,db,mb,tb,fun _=>True⟩ W5 ev fv w6 ev6 fv6):=hid ((cN.below (b:=⟨w.heap.size,bb,sb,lb,db,mb,tb,fun _=>True⟩) (ev:=ev) (fv:=fv) (Below.refl W5.heap.size W5).drew).trans (cN.kU (b:=⟨w.heap.size,bb,sb,lb,db,mb,tb,fun _=>True⟩) hs6));clear hl6 hs6;dsimp only;go_wp2_with fail
    refine aF nofun ?_
    refine aI 8 (by kernel_rfl) (L:=bm 9 511) (by kernel_rfl) ?_
    simp only [sL]
    go_wp2_with fail
    refine aF nofun ?_
    refine aT (by kernel_rfl) ?_
    go_wp2_with fail
    refine bodyPost_ret (v:=.tuple #[.pointer (some ⟨w.heap.size,0,none⟩),.int .i64 0]) (by simp [results,Tryz.results41,go_sem]) rfl ?_
    have KF6:Hid (Kept w w6 (bB db mb tb)):=hid (Kept.andThen KF.out VS6.out.1 (by
     intro k hk h
     rcases h with h | h
     ·exact h
     ·rcases OWN.out k h with q | q
      ·exact q
      ·exact absurd hk (Nat.not_lt.2 q)))
    refine ⟨⟨w.heap.size,bb,sb,lb,db,mb,tb,fun _=>True⟩,ev6,fv6,el6,rfl,rfl,rfl,rfl,H6.out,KF6.out,fun k h=>?_⟩
    rcases h with h | h | h | h | h | h | h
    ·exact OWN.out k (.inl h)
    ·exact OWN.out k (.inr (.inl h))
    ·exact OWN.out k (.inr (.inr (.inl h)))
    ·exact OWN.out k (.inr (.inr (.inr (.inl h))))
    ·exact .inl h
    ·rcases VS6.out.2.1 k h with h | h
     ·exact OWN.out k (.inr (.inr (.inr (.inr (.inr (.inl h))))))
     ·exact .inr (Nat.le_trans KF.out.size h)
    ·rcases VS6.out.2.2 k h with h | h
     ·exact OWN.out k (.inr (.inr (.inr (.inr (.inr (.inr h))))))
     ·exact .inr (Nat.le_trans KF.out.size h)
theorem zY {db mb tb:Nat} {D:aA} {w:World} (hd:aG w db mb tb D) (hg:aW D) (hst:D.steps + 2000 <= 1000000000) {D1 D3:aA} {L:aM} {n:Nat} (h1:dJ D = (D1,0)) (h2:gW D1 = 0) (hn:(dM D1).i = n)
  (h3:fD (bZ D1).1 n = (D3,some L,0)) (hl:L.last <= H59) (hes:L.es.length <= 2147483648)
  (ho:atW L n = none) :
  Calls Tryz.prog 41 #[.pointer (some ⟨db,0,none⟩)] w (xN db mb tb D3 ⟨(eB D).t,(eB D).v,dM D1,L,false⟩ w) :=
 sN hd hg hst h1 h2 hn h3 hl hes (fun _=>⟨rfl,rfl⟩) fun y e=>by rw [ho] at e;cases e
theorem aEL {db mb tb:Nat} {D:aA} {w:World} (hd:aG w db mb tb D) (hg:aW D) (hst:D.steps + 2000 <= 1000000000) {D1 D3:aA} {L:aM} {n:Nat} (h1:dJ D = (D1,0)) (h2:gW D1 = 0) (hn:(dM D1).i = n)
  (h3:fD (bZ D1).1 n = (D3,some L,0)) (hl:L.last <= H59) (hes:L.es.length <= 2147483648)
  {y:bR} (ho:atW L n = some y) (hy:y.t = (dM D1).t) :
  Calls Tryz.prog 41 #[.pointer (some ⟨db,0,none⟩)] w (xN db mb tb D3 ⟨(eB D).t,(eB D).v,dM D1,L,false⟩ w) :=
 sN hd hg hst h1 h2 hn h3 hl hes (fun _=>⟨rfl,rfl⟩) fun z e q=>by rw [ho] at e;exact absurd hy (Option.some.inj e ▸ q)
theorem aEK {db mb tb:Nat} {D:aA} {w:World} (hd:aG w db mb tb D) (hg:aW D) (hst:D.steps + 2000 <= 1000000000) {D1 D3:aA} {L:aM} {n:Nat} (h1:dJ D = (D1,0)) (h2:gW D1 = 0) (hn:(dM D1).i = n)
  (h3:fD (bZ D1).1 n = (D3,some L,0)) (hl:L.last <= H59) (hes:L.es.length <= 2147483648)
  {y:bR} (ho:atW L n = some y) (hy:y.t ≠ (dM D1).t) {D4:aA} {L4:aM} (hr:bI D3 L n = (D4,L4,0)) (hg3:aW D3) (hokl:LOk L) (hsr:D3.steps + L.fs.length <= 1000000000) (hfs:L.fs.length <= 1000000) :
  Calls Tryz.prog 41 #[.pointer (some ⟨db,0,none⟩)] w (xN db mb tb D4 ⟨(eB D).t,(eB D).v,dM D1,L4,false⟩ w) :=
 sN hd hg hst h1 h2 hn h3 hl hes (fun q=>absurd (q y ho) hy) fun _ _ _=>⟨hr,hg3,hokl,hsr,hfs⟩
end Go.Proofs.YtjdglpcnkiioeaaGreat
namespace Go.Proofs.YtjdglpcnkiioeaaGreat
open Go.RowKit Go.Maps Go.Proofs.Own Go.Shelf

theorem dF.aAX {D D':aA} {L:aM} {P:List Pc} (h:dF D L P) (e:dO D' = dO D):dF D' L P :=
 ⟨by rw [e];exact h.fil,h.fs,h.es,h.ch,h.ok,h.hi,h.full,h.safe,h.kept,h.lo⟩
theorem mU.cut {r:aA × aM × Nat} (h:mU r) (hg:aW r.1):jQ r.1 r.2.1:=⟨h.2.2,h.1,h.2.1,hg⟩
theorem aCb {D:aA} {V:cB} {ms:List bR} (hc:jQ D V.L) (hb:V.br = false) (hs:D.steps + 3 <= 1000000000) (hd:(dW D V ms).1.down = false) :
  jQ (dW D V ms).1 (dW D V ms).2.1.L /\ (dW D V ms).1.steps <= D.steps + 3:=by
 obtain ⟨P,hi⟩:=hc.inv
 have hg:=(oG D V.L ms).fB hc.fB (by omega)
 have hl:=rR hi hc.up hc.ris ms
 unfold dW at hd ⊢
 rw [if_neg (by rw [hb];decide)] at hd ⊢
 by_cases he:(aR D V.L ms).2.2 ≠ 0
 ·rw [if_pos he] at hd ⊢
  rcases hl with h | h
  ·exact ⟨h.cut hg.1,by have:=hg.2;show (aR D V.L ms).1.steps <= _;omega⟩
  ·have h1:(aR D V.L ms).1.down = false:=hd
   rw [h.1] at h1
   cases h1
 ·rw [if_neg he] at hd ⊢
  have hup:mU (aR D V.L ms):=hl.resolve_right fun h=>he (by rw [h.2.1];decide)
  obtain ⟨u1,u2,P1,u3⟩:=hup
  have hg2:=(jX (aR D V.L ms).1 (aR D V.L ms).2.1).fB hg.1 (by have:=hg.2;omega)
  rcases aJt u3 u1 u2 with h | h
  ·exact ⟨h.cut hg2.1,by have:=hg.2;have:=hg2.2;show (bJ _ _).1.steps <= _;omega⟩
  ·have h1:(bJ (aR D V.L ms).1 (aR D V.L ms).2.1).1.down = false:=hd
   rw [h.1] at h1
   cases h1
theorem aJP:jQ dX lX:=⟨⟨_,aKW⟩,rfl,aKn,aIO⟩
def vX:cB:=⟨0,-1,iO,lX,false⟩
def rY1:aA × cB × Nat:=dW dX vX [xE,xE,xE]
def rY2:aA × cB × Nat:=gV rY1.1 rY1.2.1 (jW 2)
set_option maxRecDepth 100000 in
theorem aB0:dJ dX = (dX,0) /\ gW dX = 0 /\ (dM dX).i = (0:Nat) /\ (bZ dX).1 = dX:=by
 refine ⟨by kernel_rfl,by kernel_rfl,by kernel_rfl,by kernel_rfl⟩
set_option maxRecDepth 100000 in
theorem aLe:(⟨(eB dX).t,(eB dX).v,dM dX,lX,false⟩:cB) = vX:=by kernel_rfl
set_option maxRecDepth 100000 in
theorem y1:rY1.2.2 = 0 /\ rY1.2.1.br = false /\ rY1.1.down = false /\ rY1.2.1.L.last = 3 /\ rY1.2.1.L.es.length = 3 /\ rY1.2.1.L.b = 0:=by decide +kernel
set_option maxRecDepth 100000 in
theorem aIP:(cO rY1.1 rY1.2.1.s (jW 2)).2 = 0 /\ (cO rY1.1 rY1.2.1.s (jW 2)).1.down = false:=by decide +kernel
set_option maxRecDepth 100000 in
theorem aKX:dO (cO rY1.1 rY1.2.1.s (jW 2)).1 = dO rY1.1:=by kernel_rfl
set_option maxRecDepth 100000 in
theorem y2:rY2.2.2 = 0 /\ rY2.2.1.br = false /\ rY2.2.1.L.last = 3 /\ rY2.2.1.L.es.length = 3:=by decide +kernel
set_option maxRecDepth 100000 in
theorem y2s:rY2.2.1.s = jW 2 /\ zV rY2.2.1 2 = (1,true):=⟨by kernel_rfl,by kernel_rfl⟩
theorem y1c:jQ rY1.1 rY1.2.1.L /\ rY1.1.steps <= 3:=aCb (V:=vX) (ms:=[xE,xE,xE]) aJP rfl (by decide) y1.2.2.1

theorem gG.range {D:aA} {s:aZ} (h:gG D s):0 <= s.i /\ s.i < 576460752303423488:=by
 rcases h with ⟨rfl,_⟩ | ⟨h,_⟩
 ·exact ⟨by decide,by decide⟩
 ·exact ⟨by have:=h.1;omega,h.2.1⟩
structure gO (D:aA) (V:cB):Prop where
 cut:jQ D V.L
 br:V.br = false
 sf:gG D V.s
 vf:iW D V.t V.v
 lo:(V.L.b:Int) <= V.s.i
 hi:V.s.i <= V.L.last
 tm:∀ y,atW V.L V.s.i.toNat = some y -> y.t = V.s.t
 saf:V.L.safe = V.L.es.length
theorem nQ {L:aM} {n:Nat} {y:bR} (h:atW L n = some y):L.b < n /\ L.es[n - L.b - 1]? = some y:=by
 unfold atW at h
 split at h
 ·cases h
 ·exact ⟨by omega,h⟩
theorem xX {L:aM} {n:Nat} (h:L.b < n):atW L n = L.es[n - L.b - 1]?:=if_neg (by omega)
theorem aJI {L:aM} {n:Nat} {y:bR} (h:atW L n = some y):n <= L.last:=by
 obtain ⟨h1,h2⟩:=nQ h
 have:=(List.getElem?_eq_some_iff.1 h2).1
 unfold aM.last
 omega
theorem tW {l:List bR} {j i:Nat} {y:bR} (h:(l.take j)[i]? = some y):l[i]? = some y:=by
 rw [List.getElem?_take] at h
 split at h
 ·exact h
 ·cases h
theorem aJW {L L':aM} (h:Pre L L') {n:Nat} {y:bR} (ha:atW L' n = some y):atW L n = some y:=by
 obtain ⟨h1,h2⟩:=nQ ha
 obtain ⟨j,hj⟩:=h.es
 rw [h.b] at h1 h2
 rw [hj] at h2
 rw [xX h1]
 exact tW h2
theorem aJV {L L':aM} {ms:List bR} (hb:L'.b = L.b) (he:L'.es = L.es ++ ms) {n:Nat} (hn:n <= L.last):atW L' n = atW L n:=by
 unfold atW
 rw [hb,he]
 unfold aM.last at hn
 split
 ·rfl
 ·exact List.getElem?_append_left (by omega)
theorem aJX {L L':aM} {u:Nat} (h:Suf L L' u) {n:Nat} {y:bR} (ha:atW L' n = some y):atW L n = some y:=by
 obtain ⟨h1,h2⟩:=nQ ha
 have:=h.lo
 rw [h.es,List.getElem?_drop] at h2
 rw [xX (by omega)]
 rw [show L'.b - L.b + (n - L'.b - 1) = n - L.b - 1 by omega] at h2
 exact h2
theorem mU.on {r:aA × aM × Nat} (h:mU r) (hg:aW r.1) {L:aM} (e:r.2.1 = L):jQ r.1 L:=e ▸ ⟨h.2.2,h.1,h.2.1,hg⟩
theorem iW.on {D D':aA} {t v:Int} (h:iW D t v) (e:aC bO D'.files = aC bO D.files):iW D' t v:=by
 obtain ⟨l,h1,h2⟩:=h
 exact ⟨l,by rw [fK e];exact h1,h2⟩
theorem jQ.on {D D':aA} {L:aM} (h:jQ D L) (e:dO D' = dO D) (hd:D'.down = false) (hr:bA D'.files) (hg:aW D'):jQ D' L :=
 let ⟨P,hp⟩:=h.inv
 ⟨⟨P,hp.aAX e⟩,hd,hr,hg⟩
structure VCr (D:aA) (t v t' v':Int) (s:aZ) (L:aM):Prop where
 fB:aW D
 ris:bA D.files
 vl:aBf D t v t' v'
 sf:gG D s
 lg:∃ P,dF D L P
 lo:(L.b:Int) <= s.i
theorem gO.cr {D:aA} {V:cB} (h:gO D V):VCr D V.t V.v V.t V.v V.s V.L:=⟨h.cut.fB,h.cut.ris,h.vf.loose _ _,h.sf,h.cut.inv,h.lo⟩
theorem aDE {D:aA} {V:cB} (hb:V.br = false) (ms:List bR):dW D V ms = if (aR D V.L ms).2.2 ≠ 0 then ((aR D V.L ms).1,{ V with L:=(aR D V.L ms).2.1,br:=decide ((aR D V.L ms).2.2 = 50) },(aR D V.L ms).2.2)
  else ((bJ (aR D V.L ms).1 (aR D V.L ms).2.1).1,{ V with L:=(bJ (aR D V.L ms).1 (aR D V.L ms).2.1).2.1,br:=decide ((bJ (aR D V.L ms).1 (aR D V.L ms).2.1).2.2 = 50) },(bJ (aR D V.L ms).1 (aR D V.L ms).2.1).2.2):=by
 unfold dW
 rw [if_neg (by rw [hb];decide)]
theorem pE {D:aA} {V:cB} (h:gO D V) (hs:D.steps + 300 <= 1000000000) (ms:List bR) :
  ((dW D V ms).1.down = false -> gO (dW D V ms).1 (dW D V ms).2.1) /\
  ((dW D V ms).1.down = true -> ∃ L,VCr (dW D V ms).1 V.t V.v V.t V.v V.s L /\ L.b = V.L.b /\ L.safe = V.L.es.length /\ (L.es = V.L.es \/ L.es = V.L.es ++ ms)) /\
  (dW D V ms).1.steps <= D.steps + 300:=by
 obtain ⟨⟨⟨P,hi⟩,hd,hr,hg⟩,hbr,hsf,hvf,hlo,hhi,htm,hsaf⟩:=h
 have hre:=oG D V.L ms
 have hg1:=hre.fB hg (by omega)
 have hr1:=hre.rising hr
 have ha1:=aB8 D V.L ms
 have ht1:=aAs hd V.L ms
 have hap:=aJT (D:=D) hsaf ms
 have hlaw:=rR hi hd hr ms
 have sf1:gG (aR D V.L ms).1 V.s:=hsf.find (ha1.find oC)
 have vf1:iW (aR D V.L ms).1 V.t V.v:=hvf.on (ha1.find oD)
 rw [aDE hbr]
 by_cases he:(aR D V.L ms).2.2 ≠ 0
 ·rw [if_pos he]
  have hL:=hap.1 he
  refine ⟨fun hup=>?_,fun hdn=>?_,by have:=hg1.2;show (aR D V.L ms).1.steps <= _;omega⟩
  ·have hup':(aR D V.L ms).1.down = false:=hup
   have hop:mU (aR D V.L ms):=hlaw.resolve_right fun q=>by rw [q.1] at hup';cases hup'
   have hbr':decide ((aR D V.L ms).2.2 = 50) = false:=decide_eq_false fun e=>by rw [ht1.2 e] at hup';cases hup'
   show gO (aR D V.L ms).1 { V with L:=(aR D V.L ms).2.1,br:=_ }
   rw [hL]
   exact ⟨hop.on hg1.1 hL,hbr',sf1,vf1,hlo,hhi,htm,hsaf⟩
  ·have hdn':(aR D V.L ms).1.down = true:=hdn
   have hop:xA ms (aR D V.L ms):=hlaw.resolve_left fun q=>by rw [q.1] at hdn';cases hdn'
   obtain ⟨_,_,L,P',w1,w2,w3,w4⟩:=hop
   rw [hL] at w2 w3 w4
   exact ⟨L,⟨hg1.1,hr1,vf1.loose _ _,sf1,⟨P',w1⟩,by rw [w2];exact hlo⟩,w2,w3.trans hsaf,w4⟩
 ·rw [if_neg he]
  obtain ⟨hLb,hLe,hLs⟩:=hap.2 (by omega)
  have hop:mU (aR D V.L ms):=hlaw.resolve_right fun q=>he (by rw [q.2.1];decide)
  obtain ⟨u1,u2,P1,u3⟩:=hop
  have hre2:=jX (aR D V.L ms).1 (aR D V.L ms).2.1
  have hg2:=hre2.fB hg1.1 (by have:=hg1.2;omega)
  have ha2:=qJ (aR D V.L ms).1 (aR D V.L ms).2.1
  have sf2:gG (bJ (aR D V.L ms).1 (aR D V.L ms).2.1).1 V.s:=sf1.find (ha2.find oC)
  have vf2:iW (bJ (aR D V.L ms).1 (aR D V.L ms).2.1).1 V.t V.v:=vf1.on (ha2.find oD)
  have hsl:=zP u3 u1 u2
  generalize aR D V.L ms = r at *
  refine ⟨fun hup=>?_,fun hdn=>?_,by have:=hg1.2;have:=hg2.2;show (bJ r.1 r.2.1).1.steps <= _;omega⟩
  ·have hup':(bJ r.1 r.2.1).1.down = false:=hup
   rcases hsl with ⟨_,q2,_⟩ | ⟨q1,q2,q3,q4,P',q5,_⟩
   ·rw [q2] at hup';cases hup'
   ·show gO (bJ r.1 r.2.1).1 { V with L:=(bJ r.1 r.2.1).2.1,br:=decide ((bJ r.1 r.2.1).2.2 = 50) }
    rw [q4,q1]
    refine ⟨⟨⟨P',q5⟩,q2,q3,hg2.1⟩,rfl,sf2,vf2,by show (r.2.1.b:Int) <= _;rw [hLb];exact hlo,?_,?_,rfl⟩
    ·show V.s.i <= ((r.2.1.b + r.2.1.es.length:Nat):Int)
     rw [hLb,hLe,List.length_append]
     unfold aM.last at hhi
     omega
    ·intro y hy
     have e:atW { r.2.1 with safe:=r.2.1.es.length } V.s.i.toNat = atW V.L V.s.i.toNat:=aJV (L:=V.L) (ms:=ms) hLb hLe (by omega)
     exact htm y (e ▸ hy)
  ·have hdn':(bJ r.1 r.2.1).1.down = true:=hdn
   rcases hsl with ⟨q1,q2,q3,q4⟩ | ⟨_,q2,_⟩
   ·exact ⟨r.2.1,⟨hg2.1,hre2.rising u2,vf2.loose _ _,sf2,⟨P1,q4⟩,by rw [hLb];exact hlo⟩,hLb,hLs,.inr hLe⟩
   ·rw [q2] at hdn';cases hdn'
theorem yB {D:aA} {V:cB} (h:gO D V) (hs:D.steps + 300 <= 1000000000) (frm:Nat) :
  ((sZ D V frm).1.down = false -> gO (sZ D V frm).1 (sZ D V frm).2.1) /\
  ((sZ D V frm).1.down = true -> ∃ L,VCr (sZ D V frm).1 V.t V.v V.t V.v V.s L /\ L.b = V.L.b /\ L.safe = L.es.length /\ L.es = V.L.es.take L.es.length /\ min (frm - V.L.b - 1) V.L.es.length <= L.es.length /\ L.es.length <= V.L.es.length /\ V.s.i < frm) /\
  (sZ D V frm).1.steps <= D.steps + 300:=by
 have hkeep:=h
 obtain ⟨⟨⟨P,hi⟩,hd,hr,hg⟩,hbr,hsf,hvf,hlo,hhi,htm,hsaf⟩:=h
 have hfew:=hi.few hg
 unfold sZ
 rw [if_neg (by rw [hbr];decide)]
 by_cases hf:(frm:Int) <= V.s.i
 ·rw [if_pos hf]
  refine ⟨fun _=>hkeep,fun q=>?_,by show D.steps <= _;omega⟩
  have q':D.down = true:=q
  rw [hd] at q'
  cases q'
 ·rw [if_neg hf]
  have hre:=aGA D V.L frm
  have hg1:=hre.fB hg (by omega)
  have hr1:=hre.rising hr
  have ha1:=aHi D V.L frm
  have ht1:=aEx hd V.L frm
  obtain ⟨hp,hmin⟩:=aJq hi hd hr frm
  have hlaw:=aIZ hi hd hr frm
  have sf1:gG (fY D V.L frm).1 V.s:=hsf.find (ha1.find oC)
  have vf1:iW (fY D V.L frm).1 V.t V.v:=hvf.on (ha1.find oD)
  refine ⟨fun hup=>?_,fun hdn=>?_,by have:=hg1.2;show (fY D V.L frm).1.steps <= _;omega⟩
  ·have hup':(fY D V.L frm).1.down = false:=hup
   have hop:mU (fY D V.L frm):=hlaw.resolve_right fun q=>by rw [q.1] at hup';cases hup'
   have hbr':decide ((fY D V.L frm).2.2 = 50) = false:=decide_eq_false fun e=>by rw [ht1.2 e] at hup';cases hup'
   refine ⟨hop.on hg1.1 rfl,hbr',sf1,vf1,by show ((fY D V.L frm).2.1.b:Int) <= _;rw [hp.b];exact hlo,?_,fun y hy=>htm y (aJW hp hy),hp.safe hsaf⟩
   show V.s.i <= (((fY D V.L frm).2.1.b + (fY D V.L frm).2.1.es.length:Nat):Int)
   rw [hp.b]
   unfold aM.last at hhi
   omega
  ·have hdn':(fY D V.L frm).1.down = true:=hdn
   have hop:xA [] (fY D V.L frm):=hlaw.resolve_left fun q=>by rw [q.1] at hdn';cases hdn'
   obtain ⟨_,_,L,P',w1,w2,w3,w4⟩:=hop
   have w4':L.es = (fY D V.L frm).2.1.es:=by
    rcases w4 with w4 | w4
    ·exact w4
    ·rw [w4,List.append_nil]
   have hl:=hp.len
   rw [<- w4'] at hl hmin
   exact ⟨L,⟨hg1.1,hr1,vf1.loose _ _,sf1,⟨P',w1⟩,by rw [w2,hp.b];exact hlo⟩,w2.trans hp.b,by rw [w3,hp.safe hsaf,w4'],hl.1,hmin,hl.2,by omega⟩
theorem uO {D:aA} {V:cB} (h:gO D V) (hs:D.steps + 300 <= 1000000000) (t' v':Int) (ht:0 <= t') :
  ((oU D V t' v').1.down = false -> gO (oU D V t' v').1 (oU D V t' v').2.1) /\
  ((oU D V t' v').1.down = true -> VCr (oU D V t' v').1 V.t V.v t' v' V.s V.L) /\
  (oU D V t' v').1.steps <= D.steps + 300:=by
 obtain ⟨⟨⟨P,hi⟩,hd,hr,hg⟩,hbr,hsf,hvf,hlo,hhi,htm,hsaf⟩:=h
 unfold oU
 rw [if_neg (by rw [hbr];decide)]
 have ha:=aFz D V.t V.v t' v'
 have hg1:=aD2 V.t V.v t' v' hg (by omega)
 have hr1:=ha.rising hr
 have hl1:=ha.dO aAS
 have ht1:=aEv hd V.t V.v t' v'
 have sf1:gG (dG D V.t V.v t' v').1 V.s:=hsf.find (ha.find aFi)
 obtain ⟨k1,k2,k3⟩:=aHS hd hvf t' v' ht
 refine ⟨fun hup=>?_,fun hdn=>⟨hg1.1,hr1,(k3 hdn).1,sf1,⟨P,hi.aAX hl1⟩,hlo⟩,by have:=hg1.2;show (dG D V.t V.v t' v').1.steps <= _;omega⟩
 have hup':(dG D V.t V.v t' v').1.down = false:=hup
 have hbr':decide ((dG D V.t V.v t' v').2 = 50) = false:=decide_eq_false fun e=>by rw [ht1.2 e] at hup';cases hup'
 refine ⟨⟨⟨P,hi.aAX hl1⟩,hup',hr1,hg1.1⟩,hbr',sf1,?_,hlo,hhi,htm,hsaf⟩
 show iW (dG D V.t V.v t' v').1 (if (dG D V.t V.v t' v').2 = 0 then t' else V.t) (if (dG D V.t V.v t' v').2 = 0 then v' else V.v)
 by_cases he:(dG D V.t V.v t' v').2 = 0
 ·rw [if_pos he,if_pos he]
  exact (k1 he).2
 ·rw [if_neg he,if_neg he]
  exact k2 he hup'
def aJR (D:aA) (V:cB) (x:aZ):Prop :=
 VCr D V.t V.v V.t V.v V.s V.L \/ (V.s.i < x.i /\ x.ok /\ ∃ L,VCr D V.t V.v V.t V.v x L /\
  ((∃ y,atW V.L x.i.toNat = some y /\ y.t = x.t /\ Suf V.L L x.i.toNat /\ L.safe = L.es.length) \/ ((∀ y,atW V.L x.i.toNat = some y -> y.t ≠ x.t) /\ Pre V.L L)))
theorem vC {D:aA} {V:cB} (h:gO D V) (hs:D.steps + 300 <= 1000000000) (x:aZ) :
  ((gV D V x).1.down = false -> gO (gV D V x).1 (gV D V x).2.1) /\
  ((gV D V x).1.down = true -> aJR (gV D V x).1 V x) /\
  (gV D V x).1.steps <= D.steps + 300:=by
 obtain ⟨⟨⟨P,hi⟩,hd,hr,hg⟩,hbr,hsf,hvf,hlo,hhi,htm,hsaf⟩:=h
 have hfew:=hi.few hg
 have ha:=uE D V.s x
 have hg1:=oK V.s x hg (by omega)
 have hr1:=ha.rising hr
 have hl1:=ha.dO uU
 have ht1:=zT hd V.s x
 have vf1:iW (cO D V.s x).1 V.t V.v:=hvf.on (ha.find aFh)
 obtain ⟨sf1,hok⟩:=aCY hd hsf x
 have hi1:dF (cO D V.s x).1 V.L P:=hi.aAX hl1
 unfold gV
 rw [if_neg (by rw [hbr];decide)]
 by_cases he:(cO D V.s x).2 ≠ 0
 ·rw [if_pos he]
  rw [if_neg he] at sf1
  refine ⟨fun hup=>?_,fun hdn=>.inl ⟨hg1.1,hr1,vf1.loose _ _,sf1,⟨P,hi1⟩,hlo⟩,by have:=hg1.2;show (cO D V.s x).1.steps <= _;omega⟩
  have hup':(cO D V.s x).1.down = false:=hup
  have hbr':decide ((cO D V.s x).2 = 50) = false:=decide_eq_false fun e=>by rw [ht1.2 e] at hup';cases hup'
  exact ⟨⟨⟨P,hi1⟩,hup',hr1,hg1.1⟩,hbr',sf1,vf1,hlo,hhi,htm,hsaf⟩
 ·rw [if_neg he]
  have he0:(cO D V.s x).2 = 0:=by omega
  rw [if_pos he0] at sf1
  obtain ⟨hlt,hxok⟩:=hok he0
  have hup1:=ht1.ok he
  have hx0:((x.i.toNat:Nat):Int) = x.i:=Int.toNat_of_nonneg (by have:=hxok.1;omega)
  have hx59:x.i.toNat < H59:=by have:=hxok.2.1;unfold H59;omega
  generalize hD1:(cO D V.s x).1 = D1 at *
  by_cases ho:(atW V.L x.i.toNat).any (fun y=>y.t == x.t) = true
  ·rw [if_pos ho]
   obtain ⟨y,hy,hyt⟩:∃ y,atW V.L x.i.toNat = some y /\ y.t = x.t:=by
    cases e:atW V.L x.i.toNat with
    | none=>rw [e] at ho;simp at ho
    | some y=>rw [e] at ho;exact ⟨y,rfl,by simpa using ho⟩
   have hle:=aJI hy
   have hsu:=aIy hi1 x.i.toNat
   have hre:=aEj D1 V.L x.i.toNat
   have hg2:=hre.fB hg1.1 (by have:=hg1.2;omega)
   have hr2:=hre.rising hr1
   have ha2:=aFB D1 V.L x.i.toNat
   have ht2:=aDd hup1 V.L x.i.toNat
   have hlaw:=aHB hi1 hup1 hr1 x.i.toNat
   have sf2:gG (eI D1 V.L x.i.toNat).1 x:=sf1.find (ha2.find oC)
   have vf2:iW (eI D1 V.L x.i.toNat).1 V.t V.v:=vf1.on (ha2.find oD)
   have hb':=hsu.hi (by omega)
   refine ⟨fun hup=>?_,fun hdn=>.inr ⟨hlt,hxok,?_⟩,by have:=hg1.2;have:=hg2.2;show (eI D1 V.L x.i.toNat).1.steps <= _;omega⟩
   ·have hup':(eI D1 V.L x.i.toNat).1.down = false:=hup
    have hop:mU (eI D1 V.L x.i.toNat):=hlaw.resolve_right fun q=>by rw [q.1] at hup';cases hup'
    have hbr':decide ((eI D1 V.L x.i.toNat).2.2 = 50) = false:=decide_eq_false fun e=>by rw [ht2.2 e] at hup';cases hup'
    refine ⟨hop.on hg2.1 rfl,hbr',sf2,vf2,by show ((eI D1 V.L x.i.toNat).2.1.b:Int) <= x.i;omega,?_,fun z hz=>?_,hsu.safe hsaf⟩
    ·show x.i <= (((eI D1 V.L x.i.toNat).2.1.b + (eI D1 V.L x.i.toNat).2.1.es.length:Nat):Int)
     rw [hsu.es,List.length_drop]
     have:=hsu.lo
     unfold aM.last at hle
     omega
    ·have hz':atW V.L x.i.toNat = some z:=aJX hsu hz
     rw [hy] at hz'
     rw [<- Option.some.inj hz']
     exact hyt
   ·have hdn':(eI D1 V.L x.i.toNat).1.down = true:=hdn
    have hop:xA [] (eI D1 V.L x.i.toNat):=hlaw.resolve_left fun q=>by rw [q.1] at hdn';cases hdn'
    obtain ⟨_,_,L,P',w1,w2,w3,w4⟩:=hop
    have w4':L.es = (eI D1 V.L x.i.toNat).2.1.es:=by
     rcases w4 with w4 | w4
     ·exact w4
     ·rw [w4,List.append_nil]
    exact ⟨L,⟨hg2.1,hr2,vf2.loose _ _,sf2,⟨P',w1⟩,by rw [w2];omega⟩,.inl ⟨y,hy,hyt,⟨by rw [w2];exact hsu.lo,by rw [w4',w2];exact hsu.es,fun q=>by rw [w2];exact hsu.hi q,fun q=>by rw [w3,w4'];exact hsu.safe q⟩,by rw [w3,w4'];exact hsu.safe hsaf⟩⟩
  ·rw [if_neg ho]
   have hno:∀ y,atW V.L x.i.toNat = some y -> y.t ≠ x.t:=fun y hy e=>ho (by rw [hy];simpa using e)
   have hre:=oI D1 V.L x.i.toNat
   have hg2:=hre.fB hg1.1 (by have:=hg1.2;omega)
   have hr2:=hre.rising hr1
   have ha2:=rP D1 V.L x.i.toNat
   have sf2:gG (bI D1 V.L x.i.toNat).1 x:=sf1.find (ha2.find oC)
   have vf2:iW (bI D1 V.L x.i.toNat).1 V.t V.v:=vf1.on (ha2.find oD)
   have hlaw:=vB hx59 V.L.fs.length hi1 hup1 hr1 (by rw [hi1.fs,List.length_map];exact Nat.le_refl _)
   have hpre:=nJ x.i.toNat V.L.fs.length D1 V.L
   have hrw:bI D1 V.L x.i.toNat = resetF x.i.toNat V.L.fs.length D1 V.L:=by
    unfold bI
    rw [if_neg (by omega)]
   rw [<- hrw] at hlaw hpre
   refine ⟨fun hup=>?_,fun hdn=>.inr ⟨hlt,hxok,?_⟩,by have:=hg1.2;have:=hg2.2;show (bI D1 V.L x.i.toNat).1.steps <= _;omega⟩
   ·have hup':(bI D1 V.L x.i.toNat).1.down = false:=hup
    rcases hlaw with ⟨_,q2,_⟩ | ⟨q1,q2,q3,q4,q5⟩
    ·rw [q2] at hup';cases hup'
    ·refine ⟨⟨⟨_,q4⟩,q2,q3,hg2.1⟩,by show decide ((bI D1 V.L x.i.toNat).2.2 = 50) = false;rw [q1];rfl,sf2,vf2,?_,?_,?_,?_⟩
     ·show ((bI D1 V.L x.i.toNat).2.1.b:Int) <= x.i
      rw [q5]
      show ((x.i.toNat:Nat):Int) <= x.i
      omega
     ·show x.i <= ((bI D1 V.L x.i.toNat).2.1.last:Int)
      rw [q5]
      show x.i <= ((x.i.toNat + 0:Nat):Int)
      omega
     ·intro y hy
      have hy':atW (bI D1 V.L x.i.toNat).2.1 x.i.toNat = some y:=hy
      rw [q5] at hy'
      exact absurd (nQ hy').1 (by show ¬ x.i.toNat < x.i.toNat;omega)
     ·show (bI D1 V.L x.i.toNat).2.1.safe = (bI D1 V.L x.i.toNat).2.1.es.length
      rw [q5]
      rfl
   ·have hdn':(bI D1 V.L x.i.toNat).1.down = true:=hdn
    rcases hlaw with ⟨q1,q2,P',q3⟩ | ⟨_,q2,_⟩
    ·have hp:Pre V.L (bI D1 V.L x.i.toNat).2.1:=hpre.2 (by rw [q1];decide)
     exact ⟨_,⟨hg2.1,hr2,vf2.loose _ _,sf2,⟨P',q3⟩,by rw [hp.b];omega⟩,.inr ⟨hno,hp⟩⟩
    ·rw [q2] at hdn';cases hdn'

theorem aD3 {D:aA} {L:aM} {P:List Pc} (h:dF D L P) (ts:List (Nat × Nat)) {D':aA} (hc:Calm D') (hr:bA D'.files) (hl:dO D' = dO (cW D ts)):xO D' L.b L.es L.safe L.es.length:=by
 by_cases hP:P = []
 ·subst hP
  obtain ⟨h1,h2⟩:=uY hc h.lo.1 (hl.trans (aDH h ts))
  have he:L.es = []:=h.es
  have hs:L.safe = 0:=by
   have:=h.safe
   rw [he] at this
   exact Nat.le_zero.1 this
  exact ⟨_,_,_,h1,hc,hr,h2,rfl,rfl,0,by omega,Nat.zero_le _,rfl⟩
 ·obtain ⟨A,z,rfl⟩:=eP hP
  obtain ⟨M,h1,h2⟩:=aFI h ts
  have hfull:∀ p ∈ A,p.k = p.w.length /\ 1024 <= p.w.length /\ p.es ≠ []:=by have:=h.full;rwa [List.dropLast_concat] at this
  have hsafe:=h.aIl
  have hhi:=h.hi
  rw [h.es] at hhi
  have ho:=aIa hc hr h.lo.1 (hl.trans h1) h2 h.ch (fun p hp=>aFj h hp) hfull hhi
  rw [<- h.es] at ho
  rwa [show (cE A).length + (L.safe - (cE A).length) = L.safe by omega] at ho
theorem aKe (D:aA) {L L':aM} (h:L.fs = L'.fs):(popW D L).1 = (popW D L').1 /\ (popW D L).2.2 = (popW D L').2.2 /\ (popW D L).2.1.fs = (popW D L').2.1.fs:=by
 unfold popW
 rw [h]
 cases L'.fs.getLast? with
 | none=>exact ⟨rfl,rfl,h⟩
 | some f =>
  simp only
  split
  ·exact ⟨rfl,rfl,h⟩
  ·exact ⟨rfl,rfl,rfl⟩
theorem zC (a c:Nat):∀ (n:Nat) (D:aA) {L L':aM},L.fs = L'.fs -> (resetF a n D L).1 = (resetF c n D L').1 /\ (resetF a n D L).2.2 = (resetF c n D L').2.2
 | 0,_,_,_,_=>⟨rfl,rfl⟩
 | n + 1,D,L,L',h=>by
  obtain ⟨p1,p2,p3⟩:=aKe D h
  unfold resetF
  rw [h,p2]
  split
  ·exact ⟨rfl,rfl⟩
  ·split
   ·exact ⟨p1,p2⟩
   ·rw [p1]
    exact zC a c n _ p3
theorem aIK {D:aA} {L:aM} (h:dF D L []) {base:Nat} (hb:base < H59):dF D ⟨base,[],[],0⟩ [] :=
 ⟨h.fil,rfl,rfl,trivial,(fun e he=>by cases he),(by show base + 0 <= H59;omega),(fun p hp=>by cases hp),Nat.le_refl _,(fun A z e=>by cases A <;> cases e),hb,(fun p hp=>by cases hp)⟩
theorem aGv {D:aA} {b m n:Nat} {es:List bR} (h:xO D b es m n) (hn:n <= es.length) {si:Nat} (hsi:b <= si) (h59:si < H59) :
  ∃ D3 L3 P3 j,fD D si = (D3,some L3,0) /\ Calm D3 /\ bA D3.files /\ dF D3 L3 P3 /\ L3.safe = L3.es.length /\ m <= j /\ j <= n /\ ((L3.b = b /\ L3.es = es.take j /\ si <= b + j) \/ (L3 = ⟨si,[],[],0⟩ /\ (b + j < si \/ j = 0))):=by
 obtain ⟨D2,L2,P2,h1,hc2,hr2,hi2,hb2,hs2,j,j1,j2,j3⟩:=h
 have hlen:L2.es.length = j:=by rw [j3,List.length_take];omega
 unfold fD at h1 ⊢
 by_cases hdn:D.down = true
 ·rw [if_pos hdn] at h1;cases h1
 ·rw [if_neg hdn] at h1 ⊢
  by_cases hb59:H59 <= b
  ·rw [if_pos hb59] at h1;cases h1
  ·rw [if_neg hb59] at h1
   rw [if_neg (by omega:¬ H59 <= si)]
   by_cases hl:(loadW (dP D) D ⟨0,[],[],0⟩).2.2 ≠ 0
   ·rw [if_pos hl] at h1;cases h1
   ·rw [if_neg hl] at h1 ⊢
    generalize (loadW (dP D) D ⟨0,[],[],0⟩).1 = E at *
    generalize (loadW (dP D) D ⟨0,[],[],0⟩).2.1 = L1 at *
    unfold pU at h1 ⊢
    by_cases hst:(bQ E L1).2 ≠ 0
    ·rw [if_pos hst] at h1;cases h1
    ·rw [if_neg hst] at h1 ⊢
     generalize (bQ E L1).1 = F at *
     unfold iS at h1 ⊢
     simp only at h1 ⊢
     by_cases hcb:L1.fs = [] \/ L1.last < b
     ·have hcs:L1.fs = [] \/ L1.last < si:=hcb.imp id fun q=>by omega
      rw [if_pos hcb] at h1
      rw [if_pos hcs]
      unfold bI at h1 ⊢
      rw [if_neg hb59] at h1
      rw [if_neg (by omega:¬ H59 <= si)]
      obtain ⟨r1,r2⟩:=zC b si L1.fs.length F (L:=L1) (L':=L1) rfl
      by_cases he:(resetF b L1.fs.length F L1).2.2 ≠ 0
      ·rw [if_pos he] at h1;cases h1
      ·rw [if_neg he] at h1
       have e1:=(nJ b L1.fs.length F L1).1 (by omega)
       have e2:=(nJ si L1.fs.length F L1).1 (by rw [<- r2];omega)
       rw [e1] at h1
       rw [if_neg (show ¬ b < b by omega)] at h1
       rw [if_neg (by rw [<- r2];exact he),e2,if_neg (show ¬ si < si by omega)]
       simp only [Prod.mk.injEq,Option.some.injEq,and_true] at h1
       obtain ⟨q1,q2⟩:=h1
       subst q2
       have hj0:j = 0:=by rw [<- hlen];rfl
       have hP:P2 = []:=List.map_eq_nil_iff.1 (show P2.map Pc.wf = [] from hi2.fs.symm)
       subst hP
       exact ⟨_,_,[],j,rfl,by rw [<- r1,q1];exact hc2,by rw [<- r1,q1];exact hr2,by rw [<- r1,q1];exact aIK hi2 h59,rfl,j1,j2,.inr ⟨rfl,.inr hj0⟩⟩
     ·rw [if_neg hcb] at h1
      have hne:¬ L1.fs = []:=fun e=>hcb (.inl e)
      rw [if_neg (fun q=>q rfl)] at h1
      by_cases hbb:b < L1.b
      ·rw [if_pos hbb] at h1;cases h1
      ·rw [if_neg hbb] at h1
       simp only [Prod.mk.injEq,Option.some.injEq,and_true] at h1
       obtain ⟨q1,q2⟩:=h1
       have hL1b:L1.b = b:=by rw [<- hb2,<- q2]
       have hL1e:L1.es = L2.es:=by rw [<- q2]
       have hL1f:L1.fs = L2.fs:=by rw [<- q2]
       have hlast:L1.last = b + j:=by unfold aM.last;rw [hL1b,hL1e,hlen]
       by_cases hls:L1.last < si
       ·rw [if_pos (show L1.fs = [] \/ L1.last < si from .inr hls)]
        unfold bI
        rw [if_neg (by omega:¬ H59 <= si)]
        obtain ⟨r1,r2⟩:=zC si si L1.fs.length F (L:=L1) (L':=L2) hL1f
        rw [q1] at r1 r2
        have hre:=pW si L1.fs.length D2 L2
        have hcalm:=hre.calm hc2
        rcases vB h59 L1.fs.length hi2 hc2.1 hr2 (by rw [hL1f,hi2.fs,List.length_map];exact Nat.le_refl _) with ⟨_,k2,_⟩ | ⟨k1,k2,k3,k4,k5⟩
        ·rw [hcalm.1] at k2;cases k2
        ·rw [q1]
         have e2:=(nJ si L1.fs.length D2 L1).1 (by rw [r2];exact k1)
         rw [if_neg (by rw [r2,k1];decide),e2,if_neg (show ¬ si < si by omega)]
         rw [k5] at k4
         exact ⟨_,_,[],j,rfl,by rw [r1];exact hcalm,by rw [r1];exact k3,by rw [r1];exact k4,rfl,j1,j2,.inr ⟨rfl,.inl (by omega)⟩⟩
       ·rw [if_neg (show ¬ (L1.fs = [] \/ L1.last < si) from fun q=>q.elim hne hls),if_neg (fun q=>q rfl),if_neg (show ¬ si < L1.b by omega)]
        exact ⟨D2,L2,P2,j,by simp only;rw [q1,q2],hc2,hr2,hi2,hs2,j1,j2,.inl ⟨hb2,j3,by omega⟩⟩
def bU (V:cB):List bR:=V.L.es.drop (V.s.i.toNat - V.L.b)
structure sQ (D:aA) (t v t' v':Int) (s:aZ) (L:aM) (D':aA) (V':cB):Prop where
 inv:gO D' V'
 calm:Calm D'
 st:(V'.t = t /\ V'.v = v) \/ (V'.t = t' /\ V'.v = v')
 sn:V'.s = s
 es:∃ j,L.safe <= j /\ j <= L.es.length /\ ((bU V' = (L.es.take j).drop (s.i.toNat - L.b) /\ ∀ y,L.b < s.i.toNat -> (L.es.take j)[s.i.toNat - L.b - 1]? = some y -> y.t = s.t) \/ (bU V' = [] /\ ∃ y,L.b < s.i.toNat /\ (L.es.take j)[s.i.toNat - L.b - 1]? = some y /\ y.t ≠ s.t))
 steps:D'.steps <= D.steps + 600
structure aB4 (D:aA) (t v t' v':Int) (s:aZ) (L:aM) (D0 D1 D3:aA) (L3:aM) (p q:Int) (j:Nat):Prop where
 h1:dJ D0 = (D1,0)
 h2:gW D1 = 0
 hs:dM D1 = s
 h3:fD (bZ D1).1 s.i.toNat = (D3,some L3,0)
 st:(p = t /\ q = v) \/ (p = t' /\ q = v')
 vt:(eB D0).t = p /\ (eB D0).v = q
 cut:jQ D3 L3
 calm:Calm D3
 sf:gG D3 s
 vf:iW D3 p q
 saf:L3.safe = L3.es.length
 j1:L.safe <= j
 j2:j <= L.es.length
 es:(L3.b = L.b /\ L3.es = L.es.take j /\ s.i.toNat <= L.b + j) \/ (L3 = ⟨s.i.toNat,[],[],0⟩ /\ (L.b + j < s.i.toNat \/ j = 0))
 good0:aW D0
 steps0:D0.steps = D.steps
 steps:D3.steps <= D.steps + 300
theorem aG6 {D:aA} {t v t' v':Int} {s:aZ} {L:aM} (h:VCr D t v t' v' s L) (hst:D.steps + 2000 <= 1000000000) (ts:List (Nat × Nat)):∃ D1 D3 L3 p q j,aB4 D t v t' v' s L (fI (cW D ts)) D1 D3 L3 p q j:=by
 obtain ⟨hg,hr,hvl,hsf,⟨P,hi⟩,hlo⟩:=h
 obtain ⟨hs0,hs59⟩:=hsf.range
 have hg0:aW (fI (cW D ts)):=(hg.aHo ts).aKZ
 obtain ⟨v1,v2,p,q,v3,v4,v5,v6⟩:=aFH hr hvl ts
 have hav:=aDC (fI (cW D ts))
 have hr0:bA (fI (cW D ts)).files:=tR ts hr
 have sf0:gG (fI (cW D ts)) s:=hsf.aHo hr ts
 have sf1:gG (dJ (fI (cW D ts))).1 s:=sf0.find (hav.find aFi)
 obtain ⟨s1,s2,s3,s4⟩:=aGJ v2 sf1
 have hag:=aAk (dJ (fI (cW D ts))).1
 have hg1:=wW hg0 (by show D.steps + 3 <= _;omega)
 have hst0:(fI (cW D ts)).steps = D.steps:=rfl
 have hg2:=nV hg1.1 (by have:=hg1.2;omega)
 have hlog:dO (bZ (dJ (fI (cW D ts))).1).1 = dO (cW D ts):=((hag.dO uU).trans (hav.dO aAS))
 have hop:=aD3 hi ts s3 (hag.rising (hav.rising hr0)) hlog
 obtain ⟨D3,L3,P3,j,o1,o2,o3,o4,o5,o6,o7,o8⟩:=aGv hop (Nat.le_refl _) (si:=s.i.toNat) (by omega) (by unfold H59;omega)
 have hao:=aFC (bZ (dJ (fI (cW D ts))).1).1 s.i.toNat
 have hre:=aEk (bZ (dJ (fI (cW D ts))).1).1 s.i.toNat
 have hnf:=aGq hg2.1
 have hg3:=hre.fB hg2.1 (by have:=hg1.2;have:=hg2.2;omega)
 rw [o1] at hao hg3
 have vf2:iW (bZ (dJ (fI (cW D ts))).1).1 p q:=v6.on (hag.find aFh)
 refine ⟨(dJ (fI (cW D ts))).1,D3,L3,p,q,j,⟨?_,s1,s2,o1,v3,⟨v4,v5⟩,⟨⟨P3,o4⟩,o2.1,o3,hg3.1⟩,o2,s4.find (hao.find oC),vf2.on (hao.find oD),o5,o6,o7,o8,hg0,hst0,?_⟩⟩
 ·rw [<- v1]
 ·have:=hg1.2
  have:=hg2.2
  have h9:D3.steps <= (bZ (dJ (fI (cW D ts))).1).1.steps + (2 * (dP (bZ (dJ (fI (cW D ts))).1).1).length + 2):=hg3.2
  omega
theorem aB4.same {D:aA} {t v t' v':Int} {s:aZ} {L:aM} {D0 D1 D3:aA} {L3:aM} {p q:Int} {j:Nat} (h:aB4 D t v t' v' s L D0 D1 D3 L3 p q j) (hlo:(L.b:Int) <= s.i) (hy:∀ y,atW L3 s.i.toNat = some y -> y.t = s.t):sQ D t v t' v' s L D3 ⟨p,q,s,L3,false⟩:=by
 have hs0:=h.sf.range.1
 refine ⟨⟨h.cut,rfl,h.sf,h.vf,?_,?_,hy,h.saf⟩,h.calm,h.st,rfl,⟨j,h.j1,h.j2,.inl ?_⟩,by have:=h.steps;omega⟩
 ·show (L3.b:Int) <= s.i
  rcases h.es with ⟨e,_,_⟩ | ⟨e,_⟩
  ·rw [e];exact hlo
  ·rw [e];show ((s.i.toNat:Nat):Int) <= s.i;omega
 ·show s.i <= ((L3.b + L3.es.length:Nat):Int)
  rcases h.es with ⟨e,e2,e3⟩ | ⟨e,_⟩
  ·have:=h.j2
   rw [e,e2,List.length_take];omega
  ·rw [e];show s.i <= ((s.i.toNat + 0:Nat):Int);omega
 ·show L3.es.drop (s.i.toNat - L3.b) = _ /\ _
  rcases h.es with ⟨e,e2,e3⟩ | ⟨e,e2⟩
  ·refine ⟨by rw [e,e2],fun y h1 h2=>hy y ?_⟩
   rw [xX (by omega),e,e2]
   exact h2
  ·have hnil:(L.es.take j).length <= s.i.toNat - L.b:=by rw [List.length_take];omega
   refine ⟨by rw [e,List.drop_eq_nil_of_le hnil];exact List.drop_nil,fun y h1 h2=>?_⟩
   have:=(List.getElem?_eq_some_iff.1 h2).1
   rw [List.length_take] at this
   omega
theorem aB4.reset {D:aA} {t v t' v':Int} {s:aZ} {L:aM} {D0 D1 D3:aA} {L3:aM} {p q:Int} {j:Nat} (h:aB4 D t v t' v' s L D0 D1 D3 L3 p q j) (hst:D.steps + 2000 <= 1000000000) {y:bR} (hy:atW L3 s.i.toNat = some y) (hyt:y.t ≠ s.t) :
  ∃ D4,bI D3 L3 s.i.toNat = (D4,⟨s.i.toNat,[],[],0⟩,0) /\ sQ D t v t' v' s L D4 ⟨p,q,s,⟨s.i.toNat,[],[],0⟩,false⟩:=by
 obtain ⟨hs0,hs59⟩:=h.sf.range
 obtain ⟨P,hi⟩:=h.cut.inv
 have hfew:=hi.few h.cut.fB
 have hx59:s.i.toNat < H59:=by unfold H59;omega
 have hre:=oI D3 L3 s.i.toNat
 have hst3:=h.steps
 have hg4:=hre.fB h.cut.fB (by omega)
 have hc4:=hre.calm h.calm
 have ha4:=rP D3 L3 s.i.toNat
 have hlaw:=vB hx59 L3.fs.length hi h.cut.up h.cut.ris (by rw [hi.fs,List.length_map];exact Nat.le_refl _)
 have hrw:bI D3 L3 s.i.toNat = resetF s.i.toNat L3.fs.length D3 L3:=by
  unfold bI
  rw [if_neg (by omega)]
 rw [<- hrw] at hlaw
 rcases hlaw with ⟨_,q2,_⟩ | ⟨q1,q2,q3,q4,q5⟩
 ·rw [hc4.1] at q2;cases q2
 ·have e:bI D3 L3 s.i.toNat = ((bI D3 L3 s.i.toNat).1,⟨s.i.toNat,[],[],0⟩,0):=by rw [<- q5,<- q1]
  refine ⟨_,e,?_⟩
  rw [q5] at q4
  obtain ⟨y1,y2⟩:=nQ hy
  have hes:L3.b = L.b /\ L3.es = L.es.take j /\ s.i.toNat <= L.b + j:=h.es.resolve_right fun q=>by
   rw [q.1] at y1
   exact absurd y1 (by show ¬ s.i.toNat < s.i.toNat;omega)
  refine ⟨⟨⟨⟨_,q4⟩,q2,q3,hg4.1⟩,rfl,h.sf.find (ha4.find oC),h.vf.on (ha4.find oD),?_,?_,?_,rfl⟩,hc4,h.st,rfl,⟨j,h.j1,h.j2,.inr ⟨List.drop_nil,y,?_,?_,hyt⟩⟩,by have:=hg4.2;omega⟩
  ·show ((s.i.toNat:Nat):Int) <= s.i;omega
  ·show s.i <= ((s.i.toNat + 0:Nat):Int);omega
  ·intro z hz
   exact absurd (nQ hz).1 (by show ¬ s.i.toNat < s.i.toNat;omega)
  ·rw [<- hes.1];exact y1
  ·rw [<- hes.1,<- hes.2.1];exact y2
end Go.Proofs.YtjdglpcnkiioeaaGreat
namespace Go.Proofs.YtjdglpcnkiioeaaGreat
open Go.Lib (hid)
open Go.ChangeShapes Go.WideShapes Go.ChangeAt Go.RowKit Go.Deep Go.Proofs.Own

structure TOp where
 k:Int
 n:Int
 a:Nat
 lv:Value
 l:List wZ
 st:Int
 sv:Int
 i:Nat
 t:Int
 am:Option Addr
 nm:Nat
 cm:Nat
 ad:Option Addr
 nd:Nat
 cd:Nat
 tv:Value
 ts:List (Nat × Nat)
def aED (r:TOp):List Value:=[.int .i64 r.k,.int .i64 r.n,.int .u64 r.a,r.lv,.int .u64 r.st,.int .i64 r.sv,.int .u64 r.i,.int .u64 r.t,.slice r.am r.nm r.cm,.slice r.ad r.nd r.cd,r.tv]
structure xT (w:World) (r:TOp):Prop where
 n:r.n <= 9223372036854775807
 a:(r.a:Int) < 18446744073709551616
 l:kX w r.lv r.l
 st:0 <= r.st /\ r.st < 18446744073709551616
 i:(r.i:Int) < 18446744073709551616
 t:0 <= r.t /\ r.t < 18446744073709551616
 m:r.nm <= 2097152 -> ∃ l,l.length = r.nm /\ Ints w (.slice r.am r.nm r.cm) l
 d:r.nd <= 2097152 -> ∃ l,l.length = r.nd /\ Bytes w (.slice r.ad r.nd r.cd) l
 ts:dV w r.tv r.ts
def pD (w:World) (v:Value) (rs:List TOp):Prop:=cS w 11 v (rs.map aED) /\ (∀ r ∈ rs,xT w r) /\ rs.length <= maxLen
theorem vW:Tryz.prog.cellsOf 75 = 4:=by kernel_rfl
theorem aCe:Tryz.prog.cellsOf 73 = 1:=by kernel_rfl
theorem sX:Tryz.prog.cellsOf 97 = 2:=by kernel_rfl
theorem aCf:Tryz.prog.cellsOf 99 = 11:=by kernel_rfl
section
variable {H:Type} {enc:TypeId × Value -> H} {W:World}
set_option maxRecDepth 100000 in
theorem aCP {n:Nat} {cs:List Value} {y:DataW H × List MemPlace} (h:DataW.trod enc Tryz.prog W 0 (fun _=>true) true n 75 cs = some y):∃ (i:Nat) (t:Int) (am:Option Addr) (nm cm:Nat) (ad:Option Addr) (nd cd:Nat),cs = [.int .u64 i,.int .u64 t,.slice am nm cm,.slice ad nd cd] /\ (i:Int) < 18446744073709551616 /\ (0 <= t /\ t < 18446744073709551616) /\ (nm <= 2097152 -> ∃ l,l.length = nm /\ Ints W (.slice am nm cm) l) /\ (nd <= 2097152 -> ∃ l,l.length = nd /\ Bytes W (.slice ad nd cd) l):=by
 obtain ⟨xs,k,_,_,hl,hxl,hg⟩:=DataW.trod_struct Tryz.underlying75 h
 rw [vW] at hl
 match cs,hl with
 | [c0,c1,c2,c3],_ =>
  match xs,hxl with
  | [y0,y1,y2,y3],_ =>
   have g0:=hg 0 _ rfl
   have g1:=hg 1 _ rfl
   have g2:=hg 2 _ rfl
   have g3:=hg 3 _ rfl
   simp only [List.getElem_toArray,List.getElem_cons_zero,List.getElem_cons_succ] at g0 g1 g2 g3
   rw [sY] at g0 g1
   rw [aCe] at g2
   rw [vU] at g3
   simp only [List.drop_zero,List.drop_succ_cons,List.take_succ_cons,List.take_zero,List.getElem?_cons_zero,List.getElem?_cons_succ] at g0 g1 g2 g3
   obtain ⟨z0,e0,_,w0⟩:=DataW.trod_int Tryz.underlying22 g0
   obtain rfl:c0 = .int .u64 z0:=by simpa using e0
   obtain ⟨z1,e1,_,w1⟩:=DataW.trod_int Tryz.underlying22 g1
   obtain rfl:c1 = .int .u64 z1:=by simpa using e1
   obtain ⟨am,nm,cm,rfl,hm⟩:=aEg g2
   obtain ⟨ad,nd,cd,rfl,hd⟩:=wN g3
   have r0:=lK w0
   exact ⟨z0.toNat,z1,am,nm,cm,ad,nd,cd,by rw [Int.toNat_of_nonneg r0.1],by rw [Int.toNat_of_nonneg r0.1];exact r0.2,lK w1,hm,hd⟩
set_option maxRecDepth 100000 in
theorem aBJ {n:Nat} {cs:List Value} {y:DataW H × List MemPlace} (h:DataW.trod enc Tryz.prog W 0 (fun _=>true) true n 97 cs = some y):∃ a b:Int,cs = [.int .u64 a,.int .i64 b] /\ 0 <= a /\ a < 18446744073709551616:=by
 obtain ⟨xs,k,_,_,hl,hxl,hg⟩:=DataW.trod_struct Tryz.underlying97 h
 rw [sX] at hl
 match cs,hl with
 | [c0,c1],_ =>
  match xs,hxl with
  | [y0,y1],_ =>
   have g0:=hg 0 _ rfl
   have g1:=hg 1 _ rfl
   simp only [List.getElem_toArray,List.getElem_cons_zero,List.getElem_cons_succ] at g0 g1
   rw [sY] at g0
   rw [sV] at g1
   simp only [List.drop_zero,List.drop_succ_cons,List.take_succ_cons,List.take_zero,List.getElem?_cons_zero,List.getElem?_cons_succ] at g0 g1
   obtain ⟨z0,e0,_,w0⟩:=DataW.trod_int Tryz.underlying22 g0
   obtain rfl:c0 = .int .u64 z0:=by simpa using e0
   obtain ⟨z1,e1,_,w1⟩:=DataW.trod_int Tryz.underlying3 g1
   obtain rfl:c1 = .int .i64 z1:=by simpa using e1
   exact ⟨z0,z1,rfl,lK w0⟩
set_option maxRecDepth 100000 in
theorem aIb {n:Nat} {cs:List Value} {y:DataW H × List MemPlace} (h:DataW.trod enc Tryz.prog W 0 (fun _=>true) true n 99 cs = some y):∃ r:TOp,cs = aED r /\ xT W r:=by
 obtain ⟨xs,k,_,_,hl,hxl,hg⟩:=DataW.trod_struct Tryz.underlying99 h
 rw [aCf] at hl
 match cs,hl with
 | [c0,c1,c2,c3,c4,c5,c6,c7,c8,c9,c10],_ =>
  match xs,hxl with
  | [y0,y1,y2,y3,y4,y5,y6],_ =>
   have g0:=hg 0 _ rfl
   have g1:=hg 1 _ rfl
   have g2:=hg 2 _ rfl
   have g3:=hg 3 _ rfl
   have g4:=hg 4 _ rfl
   have g5:=hg 5 _ rfl
   have g6:=hg 6 _ rfl
   simp only [List.getElem_toArray,List.getElem_cons_zero,List.getElem_cons_succ] at g0 g1 g2 g3 g4 g5 g6
   rw [sV] at g0 g1
   rw [sY] at g2
   rw [aBi] at g3
   rw [sX] at g4
   rw [vW] at g5
   rw [aCg] at g6
   simp only [List.drop_zero,List.drop_succ_cons,List.take_succ_cons,List.take_zero,List.getElem?_cons_zero,List.getElem?_cons_succ] at g0 g1 g2 g3 g4 g5 g6
   obtain ⟨z0,e0,_,w0⟩:=DataW.trod_int Tryz.underlying3 g0
   obtain rfl:c0 = .int .i64 z0:=by simpa using e0
   obtain ⟨z1,e1,_,w1⟩:=DataW.trod_int Tryz.underlying3 g1
   obtain rfl:c1 = .int .i64 z1:=by simpa using e1
   obtain ⟨z2,e2,_,w2⟩:=DataW.trod_int Tryz.underlying22 g2
   obtain rfl:c2 = .int .u64 z2:=by simpa using e2
   obtain ⟨l,hl3⟩:=aEf g3
   obtain ⟨st,sv,e4,hs1,hs2⟩:=aBJ g4
   simp only [List.cons.injEq,and_true] at e4
   obtain ⟨rfl,rfl⟩:=e4
   obtain ⟨i,t,am,nm,cm,ad,nd,cd,e5,hi,ht,hm,hd⟩:=aCP g5
   simp only [List.cons.injEq,and_true] at e5
   obtain ⟨rfl,rfl,rfl,rfl⟩:=e5
   obtain ⟨ts,h6⟩:=yU g6
   have r2:=lK w2
   refine ⟨⟨z0,z1,z2.toNat,c3,l,st,sv,i,t,am,nm,cm,ad,nd,cd,c10,ts⟩,?_,⟨(uN w1).2,?_,hl3,⟨hs1,hs2⟩,hi,ht,hm,hd,h6⟩⟩
   ·unfold aED
    simp only
    rw [Int.toNat_of_nonneg r2.1]
   ·simp only
    rw [Int.toNat_of_nonneg r2.1]
    exact r2.2
set_option maxRecDepth 100000 in
theorem aGx {fuel:Nat} {v:Value} {x:DataW H × List MemPlace} (hf:DataW.trod enc Tryz.prog W 0 (fun _=>true) true fuel 101 [v] = some x):∃ rs,pD W v rs:=by
 obtain ⟨rs,h1,h2⟩:=uZ (val:=aED) (Ok:=xT W) Tryz.underlying101 aCf (by decide) (fun n cs y h=>aIb h) hf
 exact ⟨rs,h1,h2⟩
end
theorem xT.below {w w':World} {r:TOp} (h:xT w r) (hb:Below w.heap.size w w'):xT w' r :=
 ⟨h.n,h.a,h.l.below hb,h.st,h.i,h.t,fun e=>let ⟨l,h1,h2⟩:=h.m e;⟨l,h1,h2.below hb⟩,fun e=>let ⟨l,h1,h2⟩:=h.d e;⟨l,h1,h2.below hb⟩,h.ts.below hb⟩
theorem pD.below {w w':World} {v:Value} {rs:List TOp} (h:pD w v rs) (hb:Below w.heap.size w w'):pD w' v rs:=⟨h.1.below hb,fun r hr=>(h.2.1 r hr).below hb,h.2.2⟩
structure xS (w:World) (b o:Nat) (r:TOp):Prop where
 c0:w.cell? ⟨b,o,none⟩ = some (.int .i64 r.k)
 c1:w.cell? ⟨b,o + 1,none⟩ = some (.int .i64 r.n)
 c2:w.cell? ⟨b,o + 2,none⟩ = some (.int .u64 r.a)
 c3:w.cell? ⟨b,o + 3,none⟩ = some r.lv
 c4:w.cell? ⟨b,o + 4,none⟩ = some (.int .u64 r.st)
 c5:w.cell? ⟨b,o + 5,none⟩ = some (.int .i64 r.sv)
 c6:w.cell? ⟨b,o + 6,none⟩ = some (.int .u64 r.i)
 c7:w.cell? ⟨b,o + 7,none⟩ = some (.int .u64 r.t)
 c8:w.cell? ⟨b,o + 8,none⟩ = some (.slice r.am r.nm r.cm)
 c9:w.cell? ⟨b,o + 9,none⟩ = some (.slice r.ad r.nd r.cd)
 c10:w.cell? ⟨b,o + 10,none⟩ = some r.tv
theorem xS.kept {w w':World} {b o:Nat} {r:TOp} {S:Nat -> Prop} (h:xS w b o r) (hk:Kept w w' S) (hs:¬ S b):xS w' b o r :=
 ⟨hk.cell h.c0 hs,hk.cell h.c1 hs,hk.cell h.c2 hs,hk.cell h.c3 hs,hk.cell h.c4 hs,hk.cell h.c5 hs,hk.cell h.c6 hs,hk.cell h.c7 hs,hk.cell h.c8 hs,hk.cell h.c9 hs,hk.cell h.c10 hs⟩
theorem xS.below {w w':World} {b o:Nat} {r:TOp} (h:xS w b o r) (hb:Below w.heap.size w w'):xS w' b o r:=h.kept (Kept.aJ hb (S:=fun _=>False) fun k h1 h2=>by omega) (fun h=>h)
theorem xS.box (w:World) (r:TOp):xS (w.alloc (.cells (aED r).toArray 99)) w.heap.size 0 r:=by
 unfold aED
 exact ⟨by go_cell,by go_cell,by go_cell,by go_cell,by go_cell,by go_cell,by go_cell,by go_cell,by go_cell,by go_cell,by go_cell⟩
theorem pD.at {w:World} {a:Option Addr} {n c:Nat} {rs:List TOp} (h:pD w (.slice a n c) rs) {j:Nat} {r:TOp} (hj:rs[j]? = some r):∃ b o,a = some ⟨b,o,none⟩ /\ b < w.heap.size /\ xS w b (o + j * 11) r:=by
 obtain ⟨hl,he⟩:=List.getElem?_eq_some_iff.1 hj
 obtain ⟨b,o,h1,h2,h3⟩:=h.1.at (j:=j) (by rw [List.length_map];exact hl)
 rw [List.getElem_map,he] at h3
 exact ⟨b,o,h1,h2,by have:=h3 0 _ rfl;rwa [Nat.add_zero] at this,h3 1 _ rfl,h3 2 _ rfl,h3 3 _ rfl,h3 4 _ rfl,h3 5 _ rfl,h3 6 _ rfl,h3 7 _ rfl,h3 8 _ rfl,h3 9 _ rfl,h3 10 _ rfl⟩

def iQ (r:TOp):Bool:=decide ((r.l.length <= 12 /\ r.ts.length <= 40) /\ (r.nm <= 30 /\ r.nd <= 33000)) && r.l.all (fun e=>decide (e.dn <= 5000))
def gE (rs:List TOp):Bool:=rs.all iQ && decide (rs.length <= 60)
theorem aGR {rs:List TOp} {r:TOp} (hm:r ∈ rs) (h:¬ ((r.l.length <= 12 /\ r.ts.length <= 40) /\ (r.nm <= 30 /\ r.nd <= 33000))):gE rs = false:=by
 unfold gE
 have:rs.all iQ = false:=by
  rw [List.all_eq_false]
  refine ⟨r,hm,?_⟩
  unfold iQ
  simp [h]
 rw [this]
 rfl
theorem aEu {rs:List TOp} {r:TOp} {e:wZ} (hm:r ∈ rs) (he:e ∈ r.l) (h:¬ e.dn <= 5000):gE rs = false:=by
 unfold gE
 have:rs.all iQ = false:=by
  rw [List.all_eq_false]
  refine ⟨r,hm,?_⟩
  unfold iQ
  have:r.l.all (fun e=>decide (e.dn <= 5000)) = false:=by
   rw [List.all_eq_false]
   exact ⟨e,he,by simpa using h⟩
  rw [this]
  simp
 rw [this]
 rfl
theorem aDc {r:TOp} (h:(r.l.length <= 12 /\ r.ts.length <= 40) /\ (r.nm <= 30 /\ r.nd <= 33000)) (he:∀ e ∈ r.l,e.dn <= 5000):iQ r = true:=by
 unfold iQ
 have:r.l.all (fun e=>decide (e.dn <= 5000)) = true:=by
  rw [List.all_eq_true]
  intro e hm
  simpa using he e hm
 rw [this]
 simp [h]
open Go.Maps Go.Shelf in
set_option maxRecDepth 20000 in
theorem sK (v:Value) (rs:List TOp) (w:World) (h:pD w v rs):Calls Tryz.prog 40 #[v] w fun e w'=>e = .returned (.bool (gE rs)) /\ Below w.heap.size w w':=by
 obtain ⟨la,lc,rfl,_⟩:=h.1.shape
 rw [List.length_map] at h ⊢
 obtain ⟨n,hn⟩:∃ n,rs.length = n:=⟨_,rfl⟩
 have HN:=hid hn
 have HL:=hid h
 have hmx:=h.2.2
 rw [hn] at HL hmx ⊢
 unfold maxLen at hmx
 clear h hn
 go_enter Tryz.func40,Tryz.ntmps40
 go_wp2_with fail
 go_loopw [9] (fun i wr=>∃ j:Nat,i = .int .i64 j /\ j <= n /\ (∀ r ∈ rs.take j,iQ r = true) /\ Below w.heap.size w wr) (fun i _=>n - (intOf i).toNat)
 case atStart=>exact ⟨0,rfl,by omega,by simp,Below.refl _ _⟩
 case round =>
  obtain ⟨j,rfl,hj,hall,hb⟩:=hrel
  have BR:=hid hb
  have HA:=hid hall
  clear hb hall
  by_cases hlt:j < n
  ·obtain ⟨r,hr,hm⟩:=aDX (l:=rs) (j:=j) (by rw [HN.out];exact hlt)
   obtain ⟨b,o,rfl,hbl,hc⟩:=(HL.out.below BR.out).at hr
   obtain ⟨ta,tc,htv,_⟩:=((HL.out.2.1 r hm).ts).1.shape
   have HE:=hid (((HL.out.2.1 r hm).below BR.out).l)
   obtain ⟨ea,ec,hev,_⟩:=HE.out.1.shape
   rw [List.length_map] at htv hev
   have hmx2:=HE.out.2.2
   unfold maxLen at hmx2
   have HR:=hid hr
   have HM:=hid hm
   obtain ⟨rk,rn,ra,rlv,rl,rst,rsv,ri,rt,am,nm,cm,ad,nd,cd,rtv,rts⟩:=r
   simp only at htv hev HE hmx2 hc
   subst htv hev
   obtain ⟨m,hm'⟩:∃ m,rts.length = m:=⟨_,rfl⟩
   obtain ⟨q,hq⟩:∃ q,rl.length = q:=⟨_,rfl⟩
   have HT:=hid hm'
   have HQ:=hid hq
   rw [hm'] at hc HR HM
   rw [hq] at HE hmx2 hc HR HM
   obtain ⟨x0,x1,x2,x3,x4,x5,x6,x7,x8,x9,x10⟩:=hc
   simp only at x0 x1 x2 x3 x4 x5 x6 x7 x8 x9 x10
   clear hr hm hm' hq
   have HNO:Hid (¬ ((q <= 12 /\ m <= 40) /\ (nm <= 30 /\ nd <= 33000)) -> gE rs = false):=hid (fun hno=>aGR HM.out (by simp only;rw [HQ.out,HT.out];exact hno))
   by_cases h12:q <= 12
   ·have b0:¬ (12:Int) < (q:Int):=by omega
    by_cases h40:m <= 40
    ·have b1:¬ (40:Int) < (m:Int):=by omega
     go_wp2_with fail
     generalize hwx:World.alloc wr _ = wx
     have BX:Hid (Below w.heap.size w wx):=hid (by subst hwx;exact BR.out.alloc BR.out.size _)
     have LX:Hid (Below wr.heap.size wr wx):=hid (by subst hwx;exact (Below.refl _ _).alloc (Nat.le_refl _) _)
     have EX:=hid (HE.out.below LX.out)
     have y3:wx.cell? ⟨wr.heap.size,3,none⟩ = some (.slice ea q ec):=by subst hwx;go_cell
     have hsz:wr.heap.size < wx.heap.size:=World.block_lt_of_cell? _ _ y3
     clear hwx x0 x1 x2 x3 x4 x5 x6 x7 x8 x9 x10
     by_cases hli:nm <= 30 /\ nd <= 33000
     ·refine (aD5 ri rt am ad nm cm nd cd _ hli.1 hli.2).mono ?_
      rintro e w2 ⟨rfl,hb2⟩
      have BX2:=hid (BX.out.trans (hb2.mono BX.out.size))
      have EX2:=hid (EX.out.below hb2)
      have y3':=Below.at hb2 y3 hsz
      have hsz2:wr.heap.size < w2.heap.size:=World.block_lt_of_cell? _ _ y3'
      clear hb2 y3 hsz BX EX LX
      go_wp2_with fail
      go_loopw [32] (fun i wz=>∃ k:Nat,i = .int .i64 k /\ k <= q /\ (∀ e ∈ rl.take k,e.dn <= 5000) /\ Below w2.heap.size w2 wz) (fun i _=>q - (intOf i).toNat)
      case atStart=>exact ⟨0,rfl,by omega,by simp,Below.refl _ _⟩
      case round =>
       obtain ⟨k,rfl,hk,hall2,hb2⟩:=hrel
       have BZ:=hid hb2
       have HA2:=hid hall2
       clear hb2 hall2
       by_cases hlt2:k < q
       ·obtain ⟨e,he,hme⟩:=aDX (l:=rl) (j:=k) (by rw [HQ.out];exact hlt2)
        obtain ⟨b2,o2,rfl,hbl2,z0,z1,z2⟩:=(EX2.out.below BZ.out).at he
        have HEE:=hid he
        have HME:=hid hme
        clear he hme
        by_cases h5:e.dn <= 5000
        ·have b5:¬ (5000:Int) < (e.dn:Int):=by omega
         go_wp2_with fail
         go_roundw
         case rel =>
          refine ⟨k + 1,by first | rfl | go_num,by omega,fun p hp=>?_,BZ.out.alloc BZ.out.size _⟩
          rw [List.take_add_one,HEE.out] at hp
          rcases List.mem_append.1 hp with hp | hp
          ·exact HA2.out p hp
          ·obtain rfl:=List.mem_singleton.1 hp
           exact h5
         all_goals (show q - ((k:Int) + 1).toNat < q - ((k:Int)).toNat;omega)
        ·have b5:(5000:Int) < (e.dn:Int):=by omega
         have HV:Hid (gE rs = false):=hid (aEu HM.out HME.out h5)
         go_wp2_with fail
         go_ret
         exact ⟨by rw [HV.out];rfl,BX2.out.trans ((BZ.out.alloc BZ.out.size _).mono BX2.out.size)⟩
       ·obtain rfl:k = q:=by omega
        have H1:Hid (iQ ⟨rk,rn,ra,.slice ea k ec,rl,rst,rsv,ri,rt,am,nm,cm,ad,nd,cd,.slice ta m tc,rts⟩ = true):=hid (aDc (by simp only;rw [HQ.out,HT.out];exact ⟨⟨h12,h40⟩,hli⟩) (fun e he=>HA2.out e (by rw [List.take_of_length_le (by rw [HQ.out];exact Nat.le_refl _)];exact he)))
        go_wp2_with fail
        go_roundw
        case rel =>
         refine ⟨j + 1,by first | rfl | go_num,by omega,fun p hp=>?_,BX2.out.trans (BZ.out.mono BX2.out.size)⟩
         rw [List.take_add_one,HR.out] at hp
         rcases List.mem_append.1 hp with hp | hp
         ·exact HA.out p hp
         ·obtain rfl:=List.mem_singleton.1 hp
          exact H1.out
        all_goals (show n - ((j:Int) + 1).toNat < n - ((j:Int)).toNat;omega)
     ·have HV:Hid (gE rs = false):=hid (HNO.out (fun q=>hli q.2))
      refine (aGk ri rt am ad nm cm nd cd _ hli).mono ?_
      rintro e w2 ⟨rfl,hb2⟩
      have BX2:=hid (BX.out.trans (hb2.mono BX.out.size))
      clear hb2
      go_wp2_with fail
      go_ret
      exact ⟨by rw [HV.out];rfl,BX2.out⟩
    ·have b1:(40:Int) < (m:Int):=by omega
     have HV:Hid (gE rs = false):=hid (HNO.out (fun q=>h40 q.1.2))
     go_wp2_with fail
     go_ret
     exact ⟨by rw [HV.out];rfl,BR.out.alloc BR.out.size _⟩
   ·have b0:(12:Int) < (q:Int):=by omega
    have HV:Hid (gE rs = false):=hid (HNO.out (fun q=>h12 q.1.1))
    go_wp2_with fail
    go_ret
    exact ⟨by rw [HV.out];rfl,BR.out.alloc BR.out.size _⟩
  ·obtain rfl:j = n:=by omega
   have hal:rs.all iQ = true:=by
    rw [List.all_eq_true]
    intro r hr
    exact HA.out r (by rw [List.take_of_length_le (by rw [HN.out];exact Nat.le_refl _)];exact hr)
   by_cases h1:j <= 60
   ·have b1:(j:Int) <= 60:=by omega
    have HV:Hid (gE rs = true):=hid (by unfold gE;rw [hal,HN.out];simpa using h1)
    clear hal
    go_wp2_with fail
    go_ret
    exact ⟨by rw [HV.out];rfl,BR.out⟩
   ·have b1:¬ (j:Int) <= 60:=by omega
    have HV:Hid (gE rs = false):=hid (by unfold gE;rw [hal,HN.out];simpa using h1)
    clear hal
    go_wp2_with fail
    go_ret
    exact ⟨by rw [HV.out];rfl,BR.out⟩
end Go.Proofs.YtjdglpcnkiioeaaGreat
namespace Go.Proofs.YtjdglpcnkiioeaaGreat
open Go.Lib (hid)
open Go.RowKit Go.Maps Go.Proofs.Own Go.Shelf

def aI1 (room:Int):aA:=⟨room,[],false,-1,0⟩
theorem aFO {room:Int} (h0:0 <= room) (h1:room <= 1048576):aW (aI1 room):=⟨⟨by show 0 <= room;exact h0,by show room <= 1048576;exact h1,by show (-1:Int) <= -1;decide,by show (-1:Int) <= 9223372036854775807;decide,by show (0:Int) <= 0;decide,by show (0:Int) <= 1000000000;decide,by show 0 <= 1000;decide,fun f h=>by cases h⟩,by show 0 <= 1048576;decide,by show 0 <= 128;decide⟩
theorem aI2 {room:Int} (h0:0 <= room) (h1:room <= 1048576):VCr (aI1 room) 0 (-1) 0 (-1) iO lX :=
 ⟨aFO h0 h1,List.Pairwise.nil,⟨[],Good.nil,.inl rfl⟩,.inl ⟨rfl,rfl⟩,⟨[],(uY (D:=aI1 room) (b:=0) ⟨rfl,rfl⟩ (by decide) rfl).2⟩,by decide⟩
theorem wV {db mb tb:Nat} {D:aA} {t v t' v':Int} {s:aZ} {L:aM} {ts:List (Nat × Nat)} {w:World} (hd:aG w db mb tb (fI (cW D ts))) (h:VCr D t v t' v' s L) (hst:D.steps + 3000 <= 1000000000) :
  Calls Tryz.prog 41 #[.pointer (some ⟨db,0,none⟩)] w fun e w'=>∃ D' V',sQ D t v t' v' s L D' V' /\ xN db mb tb D' V' w e w':=by
 obtain ⟨D1,D3,L3,p,q,j,ho⟩:=aG6 h (by omega) ts
 have hlo:=h.lo
 obtain ⟨hs0,hs59⟩:=ho.sf.range
 obtain ⟨P,hi⟩:=ho.cut.inv
 have hl:L3.last <= H59:=hi.hi
 have hsz:=(hi.lok ho.cut.fB).2
 have hfew:=hi.few ho.cut.fB
 have hn:(dM D1).i = (s.i.toNat:Int):=by rw [ho.hs];omega
 have hst0:=ho.steps0
 have hst3:=ho.steps
 have he:∀ L',(⟨(eB (fI (cW D ts))).t,(eB (fI (cW D ts))).v,dM D1,L',false⟩:cB) = ⟨p,q,s,L',false⟩:=fun L'=>by rw [ho.vt.1,ho.vt.2,ho.hs]
 cases hy:atW L3 s.i.toNat with
 | none =>
  have W:=zY hd ho.good0 (by rw [hst0];omega) ho.h1 ho.h2 hn ho.h3 hl (by omega) hy
  rw [he] at W
  exact W.mono fun e w' hw=>⟨_,_,ho.same hlo (fun y e=>by rw [hy] at e;cases e),hw⟩
 | some y =>
  by_cases hyt:y.t = s.t
  ·have W:=aEL hd ho.good0 (by rw [hst0];omega) ho.h1 ho.h2 hn ho.h3 hl (by omega) hy (by rw [ho.hs];exact hyt)
   rw [he] at W
   exact W.mono fun e w' hw=>⟨_,_,ho.same hlo (fun z e=>by rw [hy] at e;rw [<- Option.some.inj e];exact hyt),hw⟩
  ·obtain ⟨D4,r1,r2⟩:=ho.reset (by omega) hy hyt
   have W:=aEK hd ho.good0 (by rw [hst0];omega) ho.h1 ho.h2 hn ho.h3 hl (by omega) hy (by rw [ho.hs];exact hyt) r1 ho.cut.fB (hi.lok ho.cut.fB).1 (by omega) (by omega)
   rw [he] at W
   exact W.mono fun e w' hw=>⟨_,_,r2,hw⟩
theorem aBS {w:World} {b:VB} {ev fv:Value} {el:bE} {D:aA} {V:cB} (h:aV w b ev fv el D V) (hv:gO D V) (hst:D.steps + 300 <= 1000000000) (n:Nat) (xt:Int) (xms:List Int) (xd:List Nat) (am ad:Option Addr) (nm cm nd cd:Nat) (hn9:(n:Int) < 18446744073709551616)
  (hxk:∀ w',Kept w w' (gH b ev fv) -> cG w' (.agg #[.int .u64 n,.int .u64 xt,.slice am nm cm,.slice ad nd cd]) ⟨(n:Int),xt,xms,xd⟩) :
  Calls Tryz.prog 81 #[.pointer (some ⟨b.vb,0,none⟩),.agg #[.int .u64 n,.int .u64 xt,.slice am nm cm,.slice ad nd cd]] w (hE b ev fv (gV D V ⟨(n:Int),xt,xms,xd⟩) w):=by
 obtain ⟨P,hi⟩:=hv.cut.inv
 have hl:V.L.last <= H59:=hi.hi
 have hsz:V.L.es.length <= 2147483648:=by have:=(hi.lok hv.cut.fB).2;omega
 by_cases he:(cO D V.s ⟨(n:Int),xt,xms,xd⟩).2 = 0
 ·obtain ⟨_,hok⟩:=aCY hv.cut.up hv.sf (⟨(n:Int),xt,xms,xd⟩:aZ)
  have h1:1 <= (n:Int):=(hok he).2.1
  have ha:=uE D V.s (⟨(n:Int),xt,xms,xd⟩:aZ)
  have hc:jQ (cO D V.s ⟨(n:Int),xt,xms,xd⟩).1 V.L:=hv.cut.on (ha.dO uU) ((zT hv.cut.up V.s _).ok (by omega)) (ha.rising hv.cut.ris) (oK V.s _ hv.cut.fB (by omega)).1
  exact zZ h hv.cut.fB hst hl hsz n xt xms xd am ad nm cm nd cd hn9 hxk hv.br he hc h1
 ·exact aEM h hv.cut.fB hst hl hsz n xt xms xd am ad nm cm nd cd hn9 hxk hv.br rfl he
def opV (k:Int) (a:Nat) (ms:List bR) (t v:Int) (x:aZ) (D:aA) (V:cB):aA × cB × Nat :=
 if k = 1 then sZ D V a else if k = 2 then oU D V t v else if k = 3 then gV D V x else dW D V ms
theorem aKd {D:aA} {V:cB} (h:gO D V) (hs:D.steps + 300 <= 1000000000) (k:Int) (a:Nat) (ms:List bR) {t:Int} (ht:0 <= t) (v:Int) (x:aZ):((opV k a ms t v x D V).1.down = false -> gO (opV k a ms t v x D V).1 (opV k a ms t v x D V).2.1) /\ (opV k a ms t v x D V).1.steps <= D.steps + 300:=by
 unfold opV
 split
 ·exact ⟨(yB h hs a).1,(yB h hs a).2.2⟩
 ·split
  ·exact ⟨(uO h hs t v ht).1,(uO h hs t v ht).2.2⟩
  ·split
   ·exact ⟨(vC h hs x).1,(vC h hs x).2.2⟩
   ·exact ⟨(pE h hs ms).1,(pE h hs ms).2.2⟩
set_option maxRecDepth 20000 in
theorem aKR {w:World} {b:VB} {ev fv:Value} {el ml:bE} {D:aA} {V:cB} (h:aV w b ev fv el D V) (hv:gO D V) (hst:D.steps + 300 <= 1000000000) (k n:Int) (a:Nat) (ea:Option Addr) (en ec:Nat) (st sv:Int) (i:Nat) (t:Int) (am ad:Option Addr) (nm cm nd cd:Nat) (tv:Value) (xms:List Int) (xd:List Nat)
  (ha:(a:Int) < 18446744073709551616) (hst0:0 <= st) (hi9:(i:Int) < 18446744073709551616) (hm:qW w (jR b.lb b.db b.mb b.tb ev fv) (.slice ea en ec) ml) (hf:Few ml)
  (hxk:∀ w',Kept w w' (gH b ev fv) -> cG w' (.agg #[.int .u64 i,.int .u64 t,.slice am nm cm,.slice ad nd cd]) ⟨(i:Int),t,xms,xd⟩) :
  Calls Tryz.prog 44 #[.pointer (some ⟨b.vb,0,none⟩),.agg #[.int .i64 k,.int .i64 n,.int .u64 a,.slice ea en ec,.int .u64 st,.int .i64 sv,.int .u64 i,.int .u64 t,.slice am nm cm,.slice ad nd cd,tv]] w (hE b ev fv (opV k a (ml.map (·.1)) st sv ⟨(i:Int),t,xms,xd⟩ D V) w):=by
 obtain ⟨W1,hW1⟩:∃ W1:World,W1 = w.alloc (.cells #[.int .i64 k,.int .i64 n,.int .u64 a,.slice ea en ec,.int .u64 st,.int .i64 sv,.int .u64 i,.int .u64 t,.slice am nm cm,.slice ad nd cd,tv] 99):=⟨_,rfl⟩
 have B:Hid (Below w.heap.size w W1):=hid (by subst hW1;exact (Below.refl _ _).alloc (Nat.le_refl _) _)
 have KB:Kept w W1 (gH b ev fv):=Kept.aJ B.out fun k h1 h2=>by omega
 have KL:Kept w W1 (jR b.lb b.db b.mb b.tb ev fv):=Kept.aJ B.out fun k h1 h2=>by omega
 have H1:=hid (h.below B.out)
 have M1:=hid (hm.kept KL)
 have HXK:Hid (∀ w',Kept W1 w' (gH b ev fv) -> cG w' (.agg #[.int .u64 i,.int .u64 t,.slice am nm cm,.slice ad nd cd]) ⟨(i:Int),t,xms,xd⟩):=hid fun w' hk=>hxk w' (KB.trans hk)
 have HV:=hid hv
 have HST:=hid hst
 have HF:=hid hf
 have HA:=hid ha
 have HS0:=hid hst0
 have HI9:=hid hi9
 have x0:W1.cell? ⟨w.heap.size,0,none⟩ = some (.int .i64 k):=by subst hW1;go_cell
 have x2:W1.cell? ⟨w.heap.size,2,none⟩ = some (.int .u64 a):=by subst hW1;go_cell
 have x3:W1.cell? ⟨w.heap.size,3,none⟩ = some (.slice ea en ec):=by subst hW1;go_cell
 have x4:W1.cell? ⟨w.heap.size,4,none⟩ = some (.int .u64 st):=by subst hW1;go_cell
 have x5:W1.cell? ⟨w.heap.size,5,none⟩ = some (.int .i64 sv):=by subst hW1;go_cell
 have x6:W1.cell? ⟨w.heap.size,6,none⟩ = some (.int .u64 i):=by subst hW1;go_cell
 have x7:W1.cell? ⟨w.heap.size,7,none⟩ = some (.int .u64 t):=by subst hW1;go_cell
 have x8:W1.cell? ⟨w.heap.size,8,none⟩ = some (.slice am nm cm):=by subst hW1;go_cell
 have x9:W1.cell? ⟨w.heap.size,9,none⟩ = some (.slice ad nd cd):=by subst hW1;go_cell
 clear h hv hst hm hf ha hst0 hi9 hxk KB KL
 by_cases h1:k = 1
 ·have b1:(k == 1) = true:=beq_iff_eq.2 h1
  have HR:Hid (opV k a (ml.map (·.1)) st sv ⟨(i:Int),t,xms,xd⟩ D V = sZ D V a):=hid (by unfold opV;rw [if_pos h1])
  clear h1
  go_enter Tryz.func44,Tryz.ntmps44
  go_wp2_with fail
  rw [<- hW1]
  go_wp2_with fail
  refine (aJx H1.out HV.out.cut (by have:=HST.out;omega) a HA.out HV.out.br).mono ?_
  intro E W2 hp
  have HP:=hid (hp.back B.out)
  obtain ⟨rfl,_⟩:=hp
  go_wp2_with fail
  go_ret
  rw [HR.out]
  exact HP.out
 ·have b1:(k == 1) = false:=beq_eq_false_iff_ne.2 h1
  by_cases h2:k = 2
  ·have b2:(k == 2) = true:=beq_iff_eq.2 h2
   have HR:Hid (opV k a (ml.map (·.1)) st sv ⟨(i:Int),t,xms,xd⟩ D V = oU D V st sv):=hid (by unfold opV;rw [if_neg h1,if_pos h2])
   clear h1 h2
   go_enter Tryz.func44,Tryz.ntmps44
   go_wp2_with fail
   rw [<- hW1]
   go_wp2_with fail
   refine (aIF H1.out HV.out.cut.fB (by have:=HST.out;omega) st sv HS0.out HV.out.br).mono ?_
   intro E W2 hp
   have HP:=hid (hp.back B.out)
   obtain ⟨rfl,_⟩:=hp
   go_wp2_with fail
   go_ret
   rw [HR.out]
   exact HP.out
  ·have b2:(k == 2) = false:=beq_eq_false_iff_ne.2 h2
   by_cases h3:k = 3
   ·have b3:(k == 3) = true:=beq_iff_eq.2 h3
    have HR:Hid (opV k a (ml.map (·.1)) st sv ⟨(i:Int),t,xms,xd⟩ D V = gV D V ⟨(i:Int),t,xms,xd⟩):=hid (by unfold opV;rw [if_neg h1,if_neg h2,if_pos h3])
    clear h1 h2 h3
    go_enter Tryz.func44,Tryz.ntmps44
    go_wp2_with fail
    rw [<- hW1]
    go_wp2_with fail
    refine (aBS H1.out HV.out HST.out i t xms xd am ad nm cm nd cd HI9.out HXK.out).mono ?_
    intro E W2 hp
    have HP:=hid (hp.back B.out)
    obtain ⟨rfl,_⟩:=hp
    go_wp2_with fail
    go_ret
    rw [HR.out]
    exact HP.out
   ·have b3:(k == 3) = false:=beq_eq_false_iff_ne.2 h3
    have HR:Hid (opV k a (ml.map (·.1)) st sv ⟨(i:Int),t,xms,xd⟩ D V = dW D V (ml.map (·.1))):=hid (by unfold opV;rw [if_neg h1,if_neg h2,if_neg h3])
    clear h1 h2 h3
    go_enter Tryz.func44,Tryz.ntmps44
    go_wp2_with fail
    rw [<- hW1]
    go_wp2_with fail
    refine (zW H1.out HV.out.cut (by have:=HST.out;omega) M1.out HF.out HV.out.br).mono ?_
    intro E W2 hp
    have HP:=hid (hp.back B.out)
    obtain ⟨rfl,_⟩:=hp
    go_wp2_with fail
    go_ret
    rw [HR.out]
    exact HP.out
end Go.Proofs.YtjdglpcnkiioeaaGreat
