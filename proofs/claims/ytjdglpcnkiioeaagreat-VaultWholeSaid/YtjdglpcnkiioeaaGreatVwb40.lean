/- Several texts in one: Vth, Vtj, Vtr, Vts, Vtk, Vtu for vwhole_law_holds. No conditions but those stated. -/
import Derived.Test.YtjdglpcnkiioeaaGreatVwb39
import Derived.Test.YtjdglpcnkiioeaaGreatVwb30
import Derived.Test.YtjdglpcnkiioeaaGreatVwb29
import Derived.Test.YtjdglpcnkiioeaaGreatVwb15
set_option maxHeartbeats 16000000
namespace Go.Proofs.YtjdglpcnkiioeaaGreat
open Go.Lib (hid)
open Go.RowKit Go.Maps Go.Proofs.Own Go.Shelf

structure VC (w:World) (vb:Nat) (p0 p1 p2:Option Addr):Prop where
  c0:w.cell? ⟨vb,0,none⟩ = some (.pointer p0)
  c1:w.cell? ⟨vb,1,none⟩ = some (.pointer p1)
  c2:w.cell? ⟨vb,2,none⟩ = some (.pointer p2)
  c3:w.cell? ⟨vb,3,none⟩ = some (.bool false)
  f0:w.frozen? ⟨vb,0,none⟩ = false
  f1:w.frozen? ⟨vb,1,none⟩ = false
  f2:w.frozen? ⟨vb,2,none⟩ = false
  f3:w.frozen? ⟨vb,3,none⟩ = false
  n8:oT w vb
theorem VC.lt {w:World} {vb:Nat} {p0 p1 p2:Option Addr} (h:VC w vb p0 p1 p2):vb < w.heap.size:=World.block_lt_of_cell? _ _ h.c0
theorem VC.kept {w w':World} {vb:Nat} {p0 p1 p2:Option Addr} {S:Nat -> Prop} (h:VC w vb p0 p1 p2) (hk:Kept w w' S) (hs:¬ S vb):VC w' vb p0 p1 p2 :=
  have hl:=h.lt
  ⟨hk.cell h.c0 hs,hk.cell h.c1 hs,hk.cell h.c2 hs,hk.cell h.c3 hs,(hk.frozen (a:=⟨vb,0,none⟩) hl hs).trans h.f0,(hk.frozen (a:=⟨vb,1,none⟩) hl hs).trans h.f1,(hk.frozen (a:=⟨vb,2,none⟩) hl hs).trans h.f2,(hk.frozen (a:=⟨vb,3,none⟩) hl hs).trans h.f3,h.n8.kept hk hl hs⟩
theorem VC.below {w w':World} {vb:Nat} {p0 p1 p2:Option Addr} (h:VC w vb p0 p1 p2) (hb:Below w.heap.size w w'):VC w' vb p0 p1 p2:=h.kept (Kept.aN hb (S:=fun _=>False) fun k h1 h2=>by omega) id
theorem VC.new (w:World):VC (w.alloc (.cells #[.pointer none,.pointer none,.pointer none,.bool false] 111)) w.heap.size none none none :=
  ⟨by go_cell,by go_cell,by go_cell,by go_cell,by simp,by simp,by simp,by simp,oT.alloc (by simp)⟩
theorem VC.zT {w:World} {vb:Nat} {p0 p1 p2:Option Addr} (h:VC w vb p0 p1 p2) (q:Addr):VC (w.setCell ⟨vb,0,none⟩ (.pointer (some q))) vb (some q) p1 p2 :=
  ⟨World.cell?_setCell_same _ _ _ h.c0,by rw [World.cell?_setCell_other _ _ _ _ (by simp)];exact h.c1,by rw [World.cell?_setCell_other _ _ _ _ (by simp)];exact h.c2,by rw [World.cell?_setCell_other _ _ _ _ (by simp)];exact h.c3,by rw [World.frozen?_setCell];exact h.f0,by rw [World.frozen?_setCell];exact h.f1,by rw [World.frozen?_setCell];exact h.f2,by rw [World.frozen?_setCell];exact h.f3,h.n8.set _ h.c0 (fun y e=>by cases e)⟩
theorem VC.tD {w:World} {vb:Nat} {p0 p1 p2:Option Addr} (h:VC w vb p0 p1 p2) (q:Addr):VC (w.setCell ⟨vb,1,none⟩ (.pointer (some q))) vb p0 (some q) p2 :=
  ⟨by rw [World.cell?_setCell_other _ _ _ _ (by simp)];exact h.c0,World.cell?_setCell_same _ _ _ h.c1,by rw [World.cell?_setCell_other _ _ _ _ (by simp)];exact h.c2,by rw [World.cell?_setCell_other _ _ _ _ (by simp)];exact h.c3,by rw [World.frozen?_setCell];exact h.f0,by rw [World.frozen?_setCell];exact h.f1,by rw [World.frozen?_setCell];exact h.f2,by rw [World.frozen?_setCell];exact h.f3,h.n8.set _ h.c1 (fun y e=>by cases e)⟩
theorem VC.lT {w:World} {vb:Nat} {p0 p1 p2:Option Addr} (h:VC w vb p0 p1 p2) (q:Addr):VC (w.setCell ⟨vb,2,none⟩ (.pointer (some q))) vb p0 p1 (some q) :=
  ⟨by rw [World.cell?_setCell_other _ _ _ _ (by simp)];exact h.c0,by rw [World.cell?_setCell_other _ _ _ _ (by simp)];exact h.c1,World.cell?_setCell_same _ _ _ h.c2,by rw [World.cell?_setCell_other _ _ _ _ (by simp)];exact h.c3,by rw [World.frozen?_setCell];exact h.f0,by rw [World.frozen?_setCell];exact h.f1,by rw [World.frozen?_setCell];exact h.f2,by rw [World.frozen?_setCell];exact h.f3,h.n8.set _ h.c2 (fun y e=>by cases e)⟩
theorem aX.make {w:World} {vb bb sb lb db mb tb n m:Nat} {ev fv:Value} {el:bF} {D:aA} {L:aK} {s:bI} {t v:Int} (hv:VC w vb (some ⟨bb,0,none⟩) (some ⟨sb,0,none⟩) (some ⟨lb,0,none⟩)) (hb:dL w bb db t v) (hs:cZ (fun k=>n <= k /\ k < m) w sb db mb tb s) (hl:bC w lb db mb tb ev fv el D L)
    (h0:∀ k,bA db mb tb k -> k < vb) (h1:vb < bb) (h2:bb < n) (h3:n <= sb) (h4:sb < m) (h5:m <= lb) (h6:∀ k,ev.ownBlock = some k -> m <= k) (h7:∀ k,fv.ownBlock = some k -> m <= k) (hok:s = jF \/ 1 <= s.i):aX w ⟨vb,bb,sb,lb,db,mb,tb⟩ ev fv el D ⟨t,v,s,L,false⟩:=by
  have hn:∀ k,vb <= k -> k < m -> ¬ jH lb db mb tb ev fv k:=fun k q1 q2 e=>by
    rcases e with e | e | e | e
    . omega
    . have:=h0 k e;omega
    . have:=h6 k e;omega
    . have:=h7 k e;omega
  exact ⟨hv.c0,hv.c1,hv.c2,hv.c3,hv.f3,hv.n8,hb,hs.wN fun k q _=>⟨by dsimp only;omega,by dsimp only;omega,hn k (by omega) (by omega)⟩,hl,hn vb (Nat.le_refl _) (by omega),⟨by dsimp only;omega,hn bb (by omega) (by omega)⟩,⟨by dsimp only;omega,by dsimp only;omega,hn sb (by omega) (by omega)⟩,hok⟩
def wT (db mb tb:Nat) (D:aA) (V:cC) (w:World):Ending -> World -> Prop:=fun e w'=>∃ (b:VB) (ev fv:Value) (el:bF),e = .returned (.tuple #[.pointer (some ⟨b.vb,0,none⟩),.int .i64 0]) /\ b.db = db /\ b.mb = mb /\ b.tb = tb /\ aX w' b ev fv el D V /\ Kept w w' (bA db mb tb) /\ ∀ k,iT b ev fv k -> bA db mb tb k \/ w.heap.size <= k
theorem aH4 {db mb tb:Nat} {D:aA} {w:World} (h:aG w db mb tb D) (hg:aS D) (hst:D.steps + 1000 <= 1000000000) (n:Nat) {D3:aA} {L:aK} (h3:fD D n = (D3,some L,0)) :
    Calls Tryz.prog 19 #[.pointer (some ⟨db,0,none⟩),.int .u64 n] w fun E w'=>Kept w w' (bA db mb tb) /\ ∃ lb ev fv el,E = .returned (.tuple #[.pointer (some ⟨lb,0,none⟩),.int .i64 0]) /\ bC w' lb db mb tb ev fv el D3 L /\ w.heap.size <= lb /\ (∀ b,ev.ownBlock = some b -> w.heap.size <= b) /\ ∀ b,fv.ownBlock = some b -> w.heap.size <= b:=by
  have hWO:Calls Tryz.prog 19 #[.pointer (some ⟨db,0,none⟩),.int .u64 n] w (aC5 db mb tb (fD D n) w):=by
    by_cases he:D.down = true \/ H59 <= n
    . exact aCZ h n he
    . exact aEk h hg hst n (fun q=>he (.inl q)) (fun q=>he (.inr q))
  rw [h3] at hWO
  refine hWO.mono ?_
  rintro E w' ⟨_,hk,_,hs⟩
  obtain ⟨lb,ev,fv,el,e,hl,q⟩:=hs L rfl
  exact ⟨hk,lb,ev,fv,el,e,hl,q⟩
set_option maxRecDepth 20000 in
theorem rR {db mb tb:Nat} {D:aA} {w:World} (hd:aG w db mb tb D) (hg:aS D) (hst:D.steps + 2000 <= 1000000000) {D1 D3:aA} {L:aK} {n:Nat} (h1:dH D = (D1,0)) (h2:gN D1 = 0) (hn:(dJ D1).i = n)
    (h3:fD (bU D1).1 n = (D3,some L,0)) (hl:L.last <= H59) (hes:L.es.length <= 2147483648)
    {D4:aA} {L4:aK} (hno:(∀ y,atW L n = some y -> y.t = (dJ D1).t) -> D4 = D3 /\ L4 = L) (hyes:∀ y,atW L n = some y -> y.t ≠ (dJ D1).t -> bH D3 L n = (D4,L4,0) /\ aS D3 /\ LOk L /\ D3.steps + L.fs.length <= 1000000000 /\ L.fs.length <= 1000000) :
    Calls Tryz.prog 41 #[.pointer (some ⟨db,0,none⟩)] w (wT db mb tb D4 ⟨(eA D).t,(eA D).v,dJ D1,L4,false⟩ w):=by
  have hg1:=wC hg (by omega)
  rw [h1] at hg1
  dsimp only at hg1
  have hg2:=nN hg1.1 (by omega)
  have HD:=hid hd
  have HG:=hid hg
  have HG1:=hid hg1.1
  have HG2:=hid hg2.1
  have HS:Hid (D.steps + 2 <= 1000000000):=hid (by omega)
  have HS2:Hid ((bU D1).1.steps + 1000 <= 1000000000):=hid (by omega)
  have HE1:=hid h1
  have HE2:=hid h2
  have HE3:=hid h3
  have HN:=hid hn
  have HLL:=hid hl
  have HLN:=hid hes
  obtain ⟨xt,hxt⟩:∃ xt,(dJ D1).t = xt:=⟨_,rfl⟩
  have HT:=hid hxt
  have HV:Hid (¬ bA db mb tb w.heap.size):=hid fun e=>by have:=hd.lt3 _ e;omega
  have HO3:Hid (∀ k,bA db mb tb k -> k < w.heap.size):=hid hd.lt3
  obtain ⟨yt,hyt⟩:∃ yt,((atW L n).getD ⟨0,0,[]⟩).t = yt:=⟨_,rfl⟩
  obtain ⟨yk,hyk⟩:∃ yk,((atW L n).getD ⟨0,0,[]⟩).k = yk:=⟨_,rfl⟩
  obtain ⟨okk,hyo⟩:∃ okk,(atW L n).isSome = okk:=⟨_,rfl⟩
  have HYT:=hid hyt
  have HYK:=hid hyk
  have HYS:=hid hyo
  have HNO:Hid ((okk = true -> (yt != xt) = false) -> D4 = D3 /\ L4 = L):=hid fun q=>hno fun y hy=>by
    rw [hy] at hyt hyo
    have:=q hyo.symm
    rw [hxt,<- bne_eq_false_iff_eq,<- this,<- hyt]
    rfl
  have HYES:Hid (okk = true -> (yt != xt) = true -> bH D3 L n = (D4,L4,0) /\ aS D3 /\ LOk L /\ D3.steps + L.fs.length <= 1000000000 /\ L.fs.length <= 1000000):=hid fun q q2=>by
    obtain ⟨y,hy⟩:=Option.isSome_iff_exists.1 (hyo.trans q)
    rw [hy] at hyt
    exact hyes y hy (by rw [hxt,show y.t = yt from hyt];exact bne_iff_ne.1 q2)
  clear hd hg hst h1 h2 h3 hn hl hes hg1 hg2 hxt hno hyes hyt hyk hyo
  go_enter Tryz.func41,Tryz.ntmps41
  go_wp2_with fail
  generalize hW1:World.alloc w _ = W1
  have B1:Hid (Below w.heap.size w W1):=hid (by subst hW1;exact (Below.refl _ _).alloc (Nat.le_refl _) _)
  have V1:Hid (VC W1 w.heap.size none none none):=hid (by subst hW1;exact VC.new w)
  have HD1:=hid (HD.out.below B1.out)
  have K1:Hid (Kept w W1 (bA db mb tb)):=hid (Kept.aN B1.out fun k h1 h2=>by omega)
  clear hW1
  refine (aGt db mb tb D W1 HD1.out HG.out HS.out).mono ?_
  rintro e w2 ⟨_,hok,hd2,hk2⟩
  rw [HE1.out] at hok hd2
  obtain ⟨bb,rfl,hbk,hbb⟩:=hok rfl
  have V2:=hid (V1.out.kept hk2 HV.out)
  have HB2:=hid hbk
  have HD2:=hid hd2
  have K2:=hid (K1.out.trans hk2)
  have HBB:Hid (w.heap.size < bb):=hid (Nat.lt_of_lt_of_le V1.out.lt hbb)
  clear hok hd2 hk2 hbk hbb HD1
  obtain ⟨v0,v1,v2,v3,f0,f1,f2,f3,_⟩:=V2.out
  dsimp only
  go_wp2_with fail
  generalize hW3:World.setCell w2 _ _ = W3
  have KS3:Hid (Kept w2 W3 (fun k=>k = w.heap.size)):=hid (by subst hW3;exact Kept.setCell w2 ⟨w.heap.size,0,none⟩ _)
  have V3:Hid (VC W3 w.heap.size (some ⟨bb,0,none⟩) none none):=hid (by subst hW3;exact V2.out.zT _)
  have HD3:Hid (aG W3 db mb tb D1):=hid (HD2.out.eJ KS3.out (fun k h1 h2=>HV.out (h2 ▸ h1)) (fun k e j y hy=>by subst e;exact V2.out.n8 j y hy))
  have HB3:Hid (dL W3 bb db (eA D).t (eA D).v):=hid (HB2.out.kept KS3.out (fun e=>by have:=HBB.out;omega))
  have K3:=hid (K2.out.gY KS3.out (Nat.le_refl _))
  clear hW3 v0 v1 v2 v3 f0 f1 f2 f3 HD2 HB2 KS3 K2
  refine (aF7 (fun k=>W3.heap.size <= k) db mb tb D1 W3 (fun b h=>h) HD3.out HG1.out HE2.out).mono ?_
  rintro e w4 ⟨_,hok,hd4,hk4⟩
  obtain ⟨sb,rfl,hst,hsb⟩:=hok HE2.out
  have V4:=hid (V3.out.kept hk4 HV.out)
  have HST4:=hid hst
  have HD4:=hid hd4
  have HB4:=hid (HB3.out.kept hk4 (fun e=>by have:=HO3.out _ e;have:=HBB.out;omega))
  have K4:=hid (K3.out.trans hk4)
  have HSB:Hid (W3.heap.size <= sb):=hid hsb
  have SZ3:Hid (w.heap.size < W3.heap.size /\ bb < W3.heap.size):=hid ⟨V3.out.lt,HB3.out.lt⟩
  clear hok hd4 hk4 hst hsb
  obtain ⟨v0,v1,v2,v3,f0,f1,f2,f3,_⟩:=V4.out
  dsimp only
  go_wp2_with fail
  generalize hW5:World.setCell w4 _ _ = W5'
  have KS5:Hid (Kept w4 W5' (fun k=>k = w.heap.size)):=hid (by subst hW5;exact Kept.setCell w4 ⟨w.heap.size,1,none⟩ _)
  have V5:Hid (VC W5' w.heap.size (some ⟨bb,0,none⟩) (some ⟨sb,0,none⟩) none):=hid (by subst hW5;exact V4.out.tD _)
  have HD5:Hid (aG W5' db mb tb (bU D1).1):=hid (HD4.out.eJ KS5.out (fun k h1 h2=>HV.out (h2 ▸ h1)) (fun k e j y hy=>by subst e;exact V4.out.n8 j y hy))
  have HB5:Hid (dL W5' bb db (eA D).t (eA D).v):=hid (HB4.out.kept KS5.out (fun e=>by have:=HBB.out;omega))
  have HST5:Hid (cZ (fun k=>W3.heap.size <= k) W5' sb db mb tb (dJ D1)):=hid (HST4.out.qI KS5.out (fun e=>by have:=HSB.out;have:=SZ3.out;omega) (fun k e=>.inr fun q=>by have:=SZ3.out;omega))
  have K5:=hid (K4.out.gY KS5.out (Nat.le_refl _))
  clear hW5 v0 v1 v2 v3 f0 f1 f2 f3 HD4 HB4 HST4 KS5 K4 HD3 HB3 K3
  refine (aCA (some ⟨sb,0,none⟩) db mb tb (dJ D1) W5' (.inr ⟨sb,rfl,HST5.out.is,aAA D1⟩)).mono ?_
  rintro e w6 ⟨i,t,mv,dv,rfl,hs,hb6⟩
  obtain ⟨e1,e2,⟨am,nm,cm,rfl⟩,⟨ad,nd,cd,rfl⟩⟩:=hs.uS
  rw [HN.out] at e1
  rw [HT.out] at e2
  subst e1 e2
  have B6:=hid hb6
  clear hs hb6
  dsimp only
  go_wp2_with fail
  generalize hW7:World.alloc w6 _ = W7
  have B7:Hid (Below W5'.heap.size W5' W7):=hid (by subst hW7;exact B6.out.alloc B6.out.size _)
  have X7:Hid (bZ W7 w6.heap.size n t (.slice am nm cm) (.slice ad nd cd)):=hid (by subst hW7;exact bZ.box w6 _ _ _ _)
  clear hW7
  have V7:=hid (V5.out.below B7.out)
  have HD7:=hid (HD5.out.below B7.out)
  have HB7:=hid (HB5.out.below B7.out)
  have HST7:Hid (cZ (fun k=>W3.heap.size <= k /\ k < W7.heap.size) W7 sb db mb tb (dJ D1)):=hid ((HST5.out.below B7.out).wN fun k h1 h2=>⟨h1,h2⟩)
  have K7:Hid (Kept w W7 (bA db mb tb)):=hid (K5.out.trans (Kept.aN B7.out fun k h1 h2=>by omega))
  have SX:Hid (w.heap.size <= w6.heap.size /\ w.heap.size < w6.heap.size):=hid (by have:=B6.out.size;have:=V5.out.lt;omega)
  clear V5 HD5 HB5 HST5 K5
  refine (aH4 HD7.out HG2.out HS2.out n HE3.out).mono ?_
  rintro e w8 ⟨hk8,lb,ev,fv,el,rfl,hl8,hlb,hev,hfv⟩
  have V8:=hid (V7.out.kept hk8 HV.out)
  have X8:=hid (X7.out.kept hk8 (fun e=>by have:=HO3.out _ e;have:=SX.out;omega))
  have HB8:=hid (HB7.out.kept hk8 (fun e=>by have:=HO3.out _ e;have:=HBB.out;omega))
  have HST8:=hid (HST7.out.kept hk8)
  have K8:=hid (K7.out.trans hk8)
  have HL8:=hid hl8
  have SZ7:Hid (W3.heap.size <= W7.heap.size /\ W7.heap.size <= lb /\ sb < W7.heap.size):=hid ⟨by have:=HST7.out.lt;have:=HSB.out;omega,hlb,HST7.out.lt⟩
  have HEV:=hid hev
  have HFV:=hid hfv
  clear hk8 hl8 hlb hev hfv
  obtain ⟨v0,v1,v2,v3,f0,f1,f2,f3,_⟩:=V8.out
  dsimp only
  go_wp2_with fail
  generalize hW9:World.setCell w8 _ _ = W9
  have KS9:Hid (Kept w8 W9 (fun k=>k = w.heap.size)):=hid (by subst hW9;exact Kept.setCell w8 ⟨w.heap.size,2,none⟩ _)
  have V9:Hid (VC W9 w.heap.size (some ⟨bb,0,none⟩) (some ⟨sb,0,none⟩) (some ⟨lb,0,none⟩)):=hid (by subst hW9;exact V8.out.lT _)
  have HLV:Hid (¬ jH lb db mb tb ev fv w.heap.size):=hid fun e=>by
    have:=SZ3.out;have:=SZ7.out
    rcases e with e | e | e | e
    . omega
    . exact HV.out e
    . have:=HEV.out _ e;omega
    . have:=HFV.out _ e;omega
  have HD9:Hid (aG W9 db mb tb D3):=hid (HL8.out.dO.eJ KS9.out (fun k h1 h2=>HV.out (h2 ▸ h1)) (fun k e j y hy=>by subst e;exact V8.out.n8 j y hy))
  have HL9:=hid (HL8.out.aside HD9.out (KS9.out.mono fun _ _ e=>.inr e) HLV.out V8.out.n8)
  have HB9:=hid (HB8.out.kept KS9.out (fun e=>by have:=HBB.out;omega))
  have HST9:=hid (HST8.out.qI KS9.out (fun e=>by have:=HSB.out;have:=SZ3.out;omega) (fun k e=>.inr fun q=>by have:=SZ3.out;omega))
  have X9:=hid (X8.out.kept KS9.out (fun e=>by have:=SX.out;omega))
  have KK:=hid (K8.out.gY KS9.out (Nat.le_refl _))
  have H9:Hid (aX W9 ⟨w.heap.size,bb,sb,lb,db,mb,tb⟩ ev fv el D3 ⟨(eA D).t,(eA D).v,dJ D1,L,false⟩):=hid (aX.make V9.out HB9.out HST9.out HL9.out HO3.out HBB.out SZ3.out.2 HSB.out SZ7.out.2.2 SZ7.out.2.1 HEV.out HFV.out (aAA D1))
  have OWN:Hid (∀ k,iT ⟨w.heap.size,bb,sb,lb,db,mb,tb⟩ ev fv k -> bA db mb tb k \/ w.heap.size <= k):=hid fun k h=>by
    have:=HBB.out;have:=HSB.out;have:=SZ3.out;have:=SZ7.out
    rcases h with h | h | h | h | h | h | h
    . right;dsimp only at h;omega
    . right;dsimp only at h;omega
    . right;dsimp only at h;omega
    . right;dsimp only at h;omega
    . exact .inl h
    . right;have:=HEV.out _ h;omega
    . right;have:=HFV.out _ h;omega
  clear hW9 v0 v1 v2 v3 f0 f1 f2 f3 KS9 V9 HLV HD9 HL9 HB9 HST9 X8 V8 HB8 HST8 HL8 K8 V7 X7 HD7 HB7 HST7 K7
  have ST9:=aM.from W9
  go_wp2_with fail
  refine aL [0,1,3,7,15,0,32,127,255,511,511,0,3071,8191] 0 (fun w'=>Below W9.heap.size W9 w') (by kernel_rfl) ?_
  refine aB [0,1,2,3,4,5,6] (by kernel_rfl) (L:=bm 14 127) (by kernel_rfl) (f':=7) rfl (fun _ _ _ _ h=>h) (fun w o h=>ST9.alloc h o) (.inr (by first | exact Below.refl _ _ | exact (Below.refl _ _).drew)) ?_
  simp only [sF,sL]
  iterate 7 (first | (refine aO _ (by rfl) (fun w' hs=>by have c2:=(H9.out.below hs).c2;obtain ⟨x0,x1,x2,x3,_,_,_,_⟩:=X9.out.below hs;go_simp;try with_reducible rfl) rfl ?_;simp only [Act.put,sA]) | (refine aD _ (by rfl) (fun w'=>by go_simp;try with_reducible rfl) ?_;simp only [Act.put,sA]))
  refine aF ?_
  refine aAB 7 11 (by kernel_rfl) (Lj:=bm 14 255) (Lk:=bm 14 2175) (by kernel_rfl) (by kernel_rfl) ?_ ?_
  . simp only [sL]
    go_wp2_with fail
    refine (aEV (H9.out.below ((Below.refl W9.heap.size W9).drew)).log HLL.out HLN.out n HYT.out HYK.out HYS.out).mono ?_
    rintro e w3 ⟨a,en,ec,rfl,hb3⟩
    have B3:Hid (Below W9.heap.size W9 w3):=hid (((Below.refl W9.heap.size W9).drew).trans (hb3.mono ((Below.refl W9.heap.size W9).drew).size))
    clear hb3
    go_wp2_with fail
    refine aE nofun ?_
    refine aB [8,9,10] (by kernel_rfl) (L:=bm 14 2047) (by kernel_rfl) (f':=3) rfl (fun _ _ _ _ h=>h) (fun w o h=>ST9.alloc h o) (.inl (by kernel_rfl)) ?_
    simp only [sF,sL]
    iterate 3 (refine aD _ (by rfl) (fun w'=>by go_simp;try with_reducible rfl) ?_;simp only [Act.put,sA])
    refine aF ?_
    refine aI 11 (by kernel_rfl) (L:=bm 14 4095) (by kernel_rfl) ?_
    simp only [sL]
    go_wp2_with fail
    have E4:Hid (EC (w3.alloc (.cells #[.int .u64 0,.int .i64 0,.slice none 0 0] 38)) w3.heap.size 0 0 (.slice none 0 0)):=hid (EC.box w3)
    have LB:Hid (W9.heap.size <= w3.heap.size):=hid B3.out.size
    have B4:Hid (Below W9.heap.size W9 (w3.alloc (.cells #[.int .u64 0,.int .i64 0,.slice none 0 0] 38))):=hid (B3.out.alloc B3.out.size _)
    generalize World.alloc w3 _ = W4 at *
    generalize hEB:w3.heap.size = eb at *
    refine aE nofun ?_
    refine aI 12 (by kernel_rfl) (L:=bm 14 8191) (by kernel_rfl) ?_
    simp only [sL]
    obtain ⟨q0,q1,q2,g0,g1,g2⟩:=E4.out
    go_wp2_with fail
    have E5:Hid (EC _ _ yt yk (.slice a en ec)):=hid ((E4.out.set yt yk).put (.slice a en ec))
    have B5:Hid (Below W9.heap.size W9 _):=hid (B4.out.trans ((EC.oO W4 eb (.int .u64 yt) (.int .i64 yk) (.slice a en ec)).below B4.out.size fun k e=>by have:=LB.out;omega))
    generalize World.setCell _ _ _ = W5 at *
    clear q0 q1 q2 g0 g1 g2
    refine aE nofun ?_
    refine aB [13] (by kernel_rfl) (L:=bm 14 16383) (by kernel_rfl) (f':=0) rfl (fun _ _ _ _ h=>h) (fun w o h=>ST9.alloc h o) (.inl (by kernel_rfl)) ?_
    simp only [sF,sL]
    iterate 1 (refine aD _ (by rfl) (fun w'=>by go_simp;try with_reducible rfl) ?_;simp only [Act.put,sA])
    refine aF ?_
    refine aR (by kernel_rfl) ?_
    have H5:=hid (H9.out.below B5.out)
    obtain ⟨x0,x1,x2,x3,_,_,_,_⟩:=X9.out.below B5.out
    obtain ⟨q0,_,_,_,_,_⟩:=E5.out
    have KF:Hid (Kept w W5 (bA db mb tb)):=hid (KK.out.andThen (Kept.aN B5.out (S:=fun _=>False) fun k h1 h2=>by omega) fun k hk h=>h.elim id False.elim)
    clear E4 LB B4 ST9
    cases okk with
    | false =>
      go_wp2_with fail
      refine bodyPost_ret (v:=.tuple #[.pointer (some ⟨w.heap.size,0,none⟩),.int .i64 0]) (by simp [results,Tryz.results41,go_sem]) rfl ?_
      rw [(HNO.out (fun e=>by cases e)).1,(HNO.out (fun e=>by cases e)).2]
      exact ⟨⟨w.heap.size,bb,sb,lb,db,mb,tb⟩,ev,fv,el,rfl,rfl,rfl,rfl,H5.out,KF.out,OWN.out⟩
    | true =>
      cases hx:(yt != t) with
      | false =>
        have HX:=hid hx
        go_wp2_with fail
        refine bodyPost_ret (v:=.tuple #[.pointer (some ⟨w.heap.size,0,none⟩),.int .i64 0]) (by simp [results,Tryz.results41,go_sem]) rfl ?_
        rw [(HNO.out (fun _=>HX.out)).1,(HNO.out (fun _=>HX.out)).2]
        exact ⟨⟨w.heap.size,bb,sb,lb,db,mb,tb⟩,ev,fv,el,rfl,rfl,rfl,rfl,H5.out,KF.out,OWN.out⟩
      | true =>
        obtain ⟨hr,hg3,hokl,hsr,hfs⟩:=HYES.out rfl hx
        have HRS:=hid hr
        have HG3:=hid hg3
        have HOKL:=hid hokl
        have HSR:=hid hsr
        have HFS:=hid hfs
        clear hr hg3 hokl hsr hfs
        have X5:=hid (X9.out.below B5.out)
        have ST5:=aM.from W5
        go_wp2_with fail
        clear x0 x1 x2 x3 q0
        refine aL [0,1,3,7,15,0,32,127,255] 0 (fun w'=>Below W5.heap.size W5 w') (by kernel_rfl) ?_
        refine aB [0,1,2,3,4,5,6] (by kernel_rfl) (L:=bm 9 127) (by kernel_rfl) (f':=2) rfl (fun _ _ _ _ h=>h) (fun w o h=>ST5.alloc h o) (.inr (by first | exact Below.refl _ _ | exact (Below.refl _ _).drew)) ?_
        simp only [sF,sL]
        iterate 7 (first | (refine aO _ (by rfl) (fun w' hs=>by have c2:=(H5.out.below hs).c2;obtain ⟨x0,x1,x2,x3,_,_,_,_⟩:=X5.out.below hs;go_simp;try with_reducible rfl) rfl ?_;simp only [Act.put,sA]) | (refine aD _ (by rfl) (fun w'=>by go_simp;try with_reducible rfl) ?_;simp only [Act.put,sA]))
        refine aF ?_
        refine aI 7 (by kernel_rfl) (L:=bm 9 255) (by kernel_rfl) ?_
        simp only [sL]
        go_wp2_with fail;refine (qA (H5.out.below (Below.refl W5.heap.size W5).drew).log HG3.out HOKL.out HSR.out HFS.out n).mono ?_;rintro e w6 ⟨rfl,ev6,fv6,el6,hl6,hs6⟩;rw [HRS.out] at hl6 ⊢;have H6:=hid ((H5.out.below (Below.refl W5.heap.size W5).drew).kK hl6 hs6);have VS6:Hid (cI ⟨w.heap.size,bb,sb,lb,db,mb,tb⟩ W5 ev fv w6 ev6 fv6):=hid ((cI.below (b:=⟨w.heap.size,bb,sb,lb,db,mb,tb⟩) (ev:=ev) (fv:=fv) (Below.refl W5.heap.size W5).drew).trans (cI.kL (b:=⟨w.heap.size,bb,sb,lb,db,mb,tb⟩) hs6));clear hl6 hs6;dsimp only;go_wp2_with fail
        refine aE nofun ?_
        refine aI 8 (by kernel_rfl) (L:=bm 9 511) (by kernel_rfl) ?_
        simp only [sL]
        go_wp2_with fail
        refine aE nofun ?_
        refine aR (by kernel_rfl) ?_
        go_wp2_with fail
        refine bodyPost_ret (v:=.tuple #[.pointer (some ⟨w.heap.size,0,none⟩),.int .i64 0]) (by simp [results,Tryz.results41,go_sem]) rfl ?_
        have KF6:Hid (Kept w w6 (bA db mb tb)):=hid (Kept.andThen KF.out VS6.out.1 (by
          intro k hk h
          rcases h with h | h
          . exact h
          . rcases OWN.out k h with q | q
            . exact q
            . exact absurd hk (Nat.not_lt.2 q)))
        refine ⟨⟨w.heap.size,bb,sb,lb,db,mb,tb⟩,ev6,fv6,el6,rfl,rfl,rfl,rfl,H6.out,KF6.out,fun k h=>?_⟩
        rcases h with h | h | h | h | h | h | h
        . exact OWN.out k (.inl h)
        . exact OWN.out k (.inr (.inl h))
        . exact OWN.out k (.inr (.inr (.inl h)))
        . exact OWN.out k (.inr (.inr (.inr (.inl h))))
        . exact .inl h
        . rcases VS6.out.2.1 k h with h | h
          . exact OWN.out k (.inr (.inr (.inr (.inr (.inr (.inl h))))))
          . exact .inr (Nat.le_trans KF.out.size h)
        . rcases VS6.out.2.2 k h with h | h
          . exact OWN.out k (.inr (.inr (.inr (.inr (.inr (.inr h))))))
          . exact .inr (Nat.le_trans KF.out.size h)
  . simp only [sL]
    go_wp2_with fail
    have E3:Hid (EC (W9.alloc (.cells #[.int .u64 0,.int .i64 0,.slice none 0 0] 38)).drew W9.heap.size 0 0 (.slice none 0 0)):=hid ((EC.box W9).below (Below.refl _ _).drew)
    have B4:Hid (Below W9.heap.size W9 (W9.alloc (.cells #[.int .u64 0,.int .i64 0,.slice none 0 0] 38)).drew):=hid ((Below.refl W9.heap.size W9).alloc (Nat.le_refl _) _).drew
    generalize World.alloc W9 _ = W3' at *
    refine aE nofun ?_
    refine aI 7 (by kernel_rfl) (L:=bm 14 2303) (by kernel_rfl) ?_
    simp only [sL]
    go_wp2_with fail
    refine (aEV (H9.out.below B4.out).log HLL.out HLN.out n HYT.out HYK.out HYS.out).mono ?_
    rintro e w3 ⟨a,en,ec,rfl,hb3⟩
    have B3:Hid (Below W9.heap.size W9 w3):=hid (B4.out.trans (hb3.mono B4.out.size))
    have E4:=hid (E3.out.below hb3)
    have LB:=hid (Nat.le_refl W9.heap.size)
    clear hb3
    go_wp2_with fail
    refine aE nofun ?_
    refine aB [8,9,10] (by kernel_rfl) (L:=bm 14 4095) (by kernel_rfl) (f':=2) rfl (fun _ _ _ _ h=>h) (fun w o h=>ST9.alloc h o) (.inl (by kernel_rfl)) ?_
    simp only [sF,sL]
    iterate 3 (refine aD _ (by rfl) (fun w'=>by go_simp;try with_reducible rfl) ?_;simp only [Act.put,sA])
    refine aF ?_
    refine aI 12 (by kernel_rfl) (L:=bm 14 8191) (by kernel_rfl) ?_
    simp only [sL]
    obtain ⟨q0,q1,q2,g0,g1,g2⟩:=E4.out
    go_wp2_with fail
    have E5:Hid (EC _ _ yt yk (.slice a en ec)):=hid ((E4.out.set yt yk).put (.slice a en ec))
    have B5:Hid (Below W9.heap.size W9 _):=hid (B3.out.trans ((EC.oO w3 W9.heap.size (.int .u64 yt) (.int .i64 yk) (.slice a en ec)).below B3.out.size fun k e=>by omega))
    generalize World.setCell _ _ _ = W5 at *
    clear q0 q1 q2 g0 g1 g2
    refine aE nofun ?_
    refine aB [13] (by kernel_rfl) (L:=bm 14 16383) (by kernel_rfl) (f':=0) rfl (fun _ _ _ _ h=>h) (fun w o h=>ST9.alloc h o) (.inl (by kernel_rfl)) ?_
    simp only [sF,sL]
    iterate 1 (refine aD _ (by rfl) (fun w'=>by go_simp;try with_reducible rfl) ?_;simp only [Act.put,sA])
    refine aF ?_
    refine aR (by kernel_rfl) ?_
    have H5:=hid (H9.out.below B5.out)
    obtain ⟨x0,x1,x2,x3,_,_,_,_⟩:=X9.out.below B5.out
    obtain ⟨q0,_,_,_,_,_⟩:=E5.out
    have KF:Hid (Kept w W5 (bA db mb tb)):=hid (KK.out.andThen (Kept.aN B5.out (S:=fun _=>False) fun k h1 h2=>by omega) fun k hk h=>h.elim id False.elim)
    clear E4 LB B4 ST9
    cases okk with
    | false =>
      go_wp2_with fail
      refine bodyPost_ret (v:=.tuple #[.pointer (some ⟨w.heap.size,0,none⟩),.int .i64 0]) (by simp [results,Tryz.results41,go_sem]) rfl ?_
      rw [(HNO.out (fun e=>by cases e)).1,(HNO.out (fun e=>by cases e)).2]
      exact ⟨⟨w.heap.size,bb,sb,lb,db,mb,tb⟩,ev,fv,el,rfl,rfl,rfl,rfl,H5.out,KF.out,OWN.out⟩
    | true =>
      cases hx:(yt != t) with
      | false =>
        have HX:=hid hx
        go_wp2_with fail
        refine bodyPost_ret (v:=.tuple #[.pointer (some ⟨w.heap.size,0,none⟩),.int .i64 0]) (by simp [results,Tryz.results41,go_sem]) rfl ?_
        rw [(HNO.out (fun _=>HX.out)).1,(HNO.out (fun _=>HX.out)).2]
        exact ⟨⟨w.heap.size,bb,sb,lb,db,mb,tb⟩,ev,fv,el,rfl,rfl,rfl,rfl,H5.out,KF.out,OWN.out⟩
      | true =>
        obtain ⟨hr,hg3,hokl,hsr,hfs⟩:=HYES.out rfl hx
        have HRS:=hid hr
        have HG3:=hid hg3
        have HOKL:=hid hokl
        have HSR:=hid hsr
        have HFS:=hid hfs
        clear hr hg3 hokl hsr hfs
        have X5:=hid (X9.out.below B5.out)
        have ST5:=aM.from W5
        go_wp2_with fail
        clear x0 x1 x2 x3 q0
        refine aL [0,1,3,7,15,0,32,127,255] 0 (fun w'=>Below W5.heap.size W5 w') (by kernel_rfl) ?_
        refine aB [0,1,2,3,4,5,6] (by kernel_rfl) (L:=bm 9 127) (by kernel_rfl) (f':=2) rfl (fun _ _ _ _ h=>h) (fun w o h=>ST5.alloc h o) (.inr (by first | exact Below.refl _ _ | exact (Below.refl _ _).drew)) ?_
        simp only [sF,sL]
        iterate 7 (first | (refine aO _ (by rfl) (fun w' hs=>by have c2:=(H5.out.below hs).c2;obtain ⟨x0,x1,x2,x3,_,_,_,_⟩:=X5.out.below hs;go_simp;try with_reducible rfl) rfl ?_;simp only [Act.put,sA]) | (refine aD _ (by rfl) (fun w'=>by go_simp;try with_reducible rfl) ?_;simp only [Act.put,sA]))
        refine aF ?_
        refine aI 7 (by kernel_rfl) (L:=bm 9 255) (by kernel_rfl) ?_
        simp only [sL]
        go_wp2_with fail;refine (qA (H5.out.below (Below.refl W5.heap.size W5).drew).log HG3.out HOKL.out HSR.out HFS.out n).mono ?_;rintro e w6 ⟨rfl,ev6,fv6,el6,hl6,hs6⟩;rw [HRS.out] at hl6 ⊢;have H6:=hid ((H5.out.below (Below.refl W5.heap.size W5).drew).kK hl6 hs6);have VS6:Hid (cI ⟨w.heap.size,bb,sb,lb,db,mb,tb⟩ W5 ev fv w6 ev6 fv6):=hid ((cI.below (b:=⟨w.heap.size,bb,sb,lb,db,mb,tb⟩) (ev:=ev) (fv:=fv) (Below.refl W5.heap.size W5).drew).trans (cI.kL (b:=⟨w.heap.size,bb,sb,lb,db,mb,tb⟩) hs6));clear hl6 hs6;dsimp only;go_wp2_with fail
        refine aE nofun ?_
        refine aI 8 (by kernel_rfl) (L:=bm 9 511) (by kernel_rfl) ?_
        simp only [sL]
        go_wp2_with fail
        refine aE nofun ?_
        refine aR (by kernel_rfl) ?_
        go_wp2_with fail
        refine bodyPost_ret (v:=.tuple #[.pointer (some ⟨w.heap.size,0,none⟩),.int .i64 0]) (by simp [results,Tryz.results41,go_sem]) rfl ?_
        have KF6:Hid (Kept w w6 (bA db mb tb)):=hid (Kept.andThen KF.out VS6.out.1 (by
          intro k hk h
          rcases h with h | h
          . exact h
          . rcases OWN.out k h with q | q
            . exact q
            . exact absurd hk (Nat.not_lt.2 q)))
        refine ⟨⟨w.heap.size,bb,sb,lb,db,mb,tb⟩,ev6,fv6,el6,rfl,rfl,rfl,rfl,H6.out,KF6.out,fun k h=>?_⟩
        rcases h with h | h | h | h | h | h | h
        . exact OWN.out k (.inl h)
        . exact OWN.out k (.inr (.inl h))
        . exact OWN.out k (.inr (.inr (.inl h)))
        . exact OWN.out k (.inr (.inr (.inr (.inl h))))
        . exact .inl h
        . rcases VS6.out.2.1 k h with h | h
          . exact OWN.out k (.inr (.inr (.inr (.inr (.inr (.inl h))))))
          . exact .inr (Nat.le_trans KF.out.size h)
        . rcases VS6.out.2.2 k h with h | h
          . exact OWN.out k (.inr (.inr (.inr (.inr (.inr (.inr h))))))
          . exact .inr (Nat.le_trans KF.out.size h)
theorem zA {db mb tb:Nat} {D:aA} {w:World} (hd:aG w db mb tb D) (hg:aS D) (hst:D.steps + 2000 <= 1000000000) {D1 D3:aA} {L:aK} {n:Nat} (h1:dH D = (D1,0)) (h2:gN D1 = 0) (hn:(dJ D1).i = n)
    (h3:fD (bU D1).1 n = (D3,some L,0)) (hl:L.last <= H59) (hes:L.es.length <= 2147483648)
    (ho:atW L n = none) :
    Calls Tryz.prog 41 #[.pointer (some ⟨db,0,none⟩)] w (wT db mb tb D3 ⟨(eA D).t,(eA D).v,dJ D1,L,false⟩ w) :=
  rR hd hg hst h1 h2 hn h3 hl hes (fun _=>⟨rfl,rfl⟩) fun y e=>by rw [ho] at e;cases e
theorem aEa {db mb tb:Nat} {D:aA} {w:World} (hd:aG w db mb tb D) (hg:aS D) (hst:D.steps + 2000 <= 1000000000) {D1 D3:aA} {L:aK} {n:Nat} (h1:dH D = (D1,0)) (h2:gN D1 = 0) (hn:(dJ D1).i = n)
    (h3:fD (bU D1).1 n = (D3,some L,0)) (hl:L.last <= H59) (hes:L.es.length <= 2147483648)
    {y:bV} (ho:atW L n = some y) (hy:y.t = (dJ D1).t) :
    Calls Tryz.prog 41 #[.pointer (some ⟨db,0,none⟩)] w (wT db mb tb D3 ⟨(eA D).t,(eA D).v,dJ D1,L,false⟩ w) :=
  rR hd hg hst h1 h2 hn h3 hl hes (fun _=>⟨rfl,rfl⟩) fun z e q=>by rw [ho] at e;exact absurd hy (Option.some.inj e ▸ q)
theorem aD9 {db mb tb:Nat} {D:aA} {w:World} (hd:aG w db mb tb D) (hg:aS D) (hst:D.steps + 2000 <= 1000000000) {D1 D3:aA} {L:aK} {n:Nat} (h1:dH D = (D1,0)) (h2:gN D1 = 0) (hn:(dJ D1).i = n)
    (h3:fD (bU D1).1 n = (D3,some L,0)) (hl:L.last <= H59) (hes:L.es.length <= 2147483648)
    {y:bV} (ho:atW L n = some y) (hy:y.t ≠ (dJ D1).t) {D4:aA} {L4:aK} (hr:bH D3 L n = (D4,L4,0)) (hg3:aS D3) (hokl:LOk L) (hsr:D3.steps + L.fs.length <= 1000000000) (hfs:L.fs.length <= 1000000) :
    Calls Tryz.prog 41 #[.pointer (some ⟨db,0,none⟩)] w (wT db mb tb D4 ⟨(eA D).t,(eA D).v,dJ D1,L4,false⟩ w) :=
  rR hd hg hst h1 h2 hn h3 hl hes (fun q=>absurd (q y ho) hy) fun _ _ _=>⟨hr,hg3,hokl,hsr,hfs⟩
end Go.Proofs.YtjdglpcnkiioeaaGreat
namespace Go.Proofs.YtjdglpcnkiioeaaGreat
open Go.RowKit Go.Maps Go.Proofs.Own Go.Shelf

theorem dD.aAy {D D':aA} {L:aK} {P:List Pc} (h:dD D L P) (e:dK D' = dK D):dD D' L P :=
  ⟨by rw [e];exact h.fil,h.fs,h.es,h.ch,h.ok,h.hi,h.full,h.safe,h.kept,h.lo⟩
theorem mN.cut {r:aA × aK × Nat} (h:mN r) (hg:aS r.1):jG r.1 r.2.1:=⟨h.2.2,h.1,h.2.1,hg⟩
theorem aBN {D:aA} {V:cC} {ms:List bV} (hc:jG D V.L) (hb:V.br = false) (hs:D.steps + 3 <= 1000000000) (hd:(dV D V ms).1.down = false) :
    jG (dV D V ms).1 (dV D V ms).2.1.L /\ (dV D V ms).1.steps <= D.steps + 3:=by
  obtain ⟨P,hi⟩:=hc.inv
  have hg:=(nZ D V.L ms).eN hc.eN (by omega)
  have hl:=rH hi hc.up hc.ris ms
  unfold dV at hd ⊢
  rw [if_neg (by rw [hb];decide)] at hd ⊢
  by_cases he:(aP D V.L ms).2.2 ≠ 0
  . rw [if_pos he] at hd ⊢
    rcases hl with h | h
    . exact ⟨h.cut hg.1,by have:=hg.2;show (aP D V.L ms).1.steps <= _;omega⟩
    . have h1:(aP D V.L ms).1.down = false:=hd
      rw [h.1] at h1
      cases h1
  . rw [if_neg he] at hd ⊢
    have hup:mN (aP D V.L ms):=hl.resolve_right fun h=>he (by rw [h.2.1];decide)
    obtain ⟨u1,u2,P1,u3⟩:=hup
    have hg2:=(jL (aP D V.L ms).1 (aP D V.L ms).2.1).eN hg.1 (by have:=hg.2;omega)
    rcases aIO u3 u1 u2 with h | h
    . exact ⟨h.cut hg2.1,by have:=hg.2;have:=hg2.2;show (bJ _ _).1.steps <= _;omega⟩
    . have h1:(bJ (aP D V.L ms).1 (aP D V.L ms).2.1).1.down = false:=hd
      rw [h.1] at h1
      cases h1
theorem aI9:jG dX lX:=⟨⟨_,aKb⟩,rfl,aJH,aH7⟩
def vX:cC:=⟨0,-1,jF,lX,false⟩
def rY1:aA × cC × Nat:=dV dX vX [xE,xE,xE]
def rY2:aA × cC × Nat:=gM rY1.1 rY1.2.1 (jK 2)
set_option maxRecDepth 100000 in
theorem aBC:dH dX = (dX,0) /\ gN dX = 0 /\ (dJ dX).i = (0:Nat) /\ (bU dX).1 = dX:=by
  refine ⟨by kernel_rfl,by kernel_rfl,by kernel_rfl,by kernel_rfl⟩
set_option maxRecDepth 100000 in
theorem aKt:(⟨(eA dX).t,(eA dX).v,dJ dX,lX,false⟩:cC) = vX:=by kernel_rfl
set_option maxRecDepth 100000 in
theorem y1:rY1.2.2 = 0 /\ rY1.2.1.br = false /\ rY1.1.down = false /\ rY1.2.1.L.last = 3 /\ rY1.2.1.L.es.length = 3 /\ rY1.2.1.L.b = 0:=by decide +kernel
set_option maxRecDepth 100000 in
theorem aH8:(cJ rY1.1 rY1.2.1.s (jK 2)).2 = 0 /\ (cJ rY1.1 rY1.2.1.s (jK 2)).1.down = false:=by decide +kernel
set_option maxRecDepth 100000 in
theorem aKc:dK (cJ rY1.1 rY1.2.1.s (jK 2)).1 = dK rY1.1:=by kernel_rfl
set_option maxRecDepth 100000 in
theorem y2:rY2.2.2 = 0 /\ rY2.2.1.br = false /\ rY2.2.1.L.last = 3 /\ rY2.2.1.L.es.length = 3:=by decide +kernel
set_option maxRecDepth 100000 in
theorem y2s:rY2.2.1.s = jK 2 /\ tI rY2.2.1 2 = (1,true):=⟨by kernel_rfl,by kernel_rfl⟩
theorem y1c:jG rY1.1 rY1.2.1.L /\ rY1.1.steps <= 3:=aBN (V:=vX) (ms:=[xE,xE,xE]) aI9 rfl (by decide) y1.2.2.1

theorem gC.range {D:aA} {s:bI} (h:gC D s):0 <= s.i /\ s.i < 576460752303423488:=by
  rcases h with ⟨rfl,_⟩ | ⟨h,_⟩
  . exact ⟨by decide,by decide⟩
  . exact ⟨by have:=h.1;omega,h.2.1⟩
structure hE (D:aA) (V:cC):Prop where
  cut:jG D V.L
  br:V.br = false
  sf:gC D V.s
  vf:iL D V.t V.v
  lo:(V.L.b:Int) <= V.s.i
  hi:V.s.i <= V.L.last
  tm:∀ y,atW V.L V.s.i.toNat = some y -> y.t = V.s.t
  saf:V.L.safe = V.L.es.length
theorem qE {L:aK} {n:Nat} {y:bV} (h:atW L n = some y):L.b < n /\ L.es[n - L.b - 1]? = some y:=by
  unfold atW at h
  split at h
  . cases h
  . exact ⟨by omega,h⟩
theorem aGM {L:aK} {n:Nat} (h:L.b < n):atW L n = L.es[n - L.b - 1]?:=if_neg (by omega)
theorem aJQ {L:aK} {n:Nat} {y:bV} (h:atW L n = some y):n <= L.last:=by
  obtain ⟨h1,h2⟩:=qE h
  have:=(List.getElem?_eq_some_iff.1 h2).1
  unfold aK.last
  omega
theorem aHV {l:List bV} {j i:Nat} {y:bV} (h:(l.take j)[i]? = some y):l[i]? = some y:=by
  rw [List.getElem?_take] at h
  split at h
  . exact h
  . cases h
theorem aJf {L L':aK} (h:Pre L L') {n:Nat} {y:bV} (ha:atW L' n = some y):atW L n = some y:=by
  obtain ⟨h1,h2⟩:=qE ha
  obtain ⟨j,hj⟩:=h.es
  rw [h.b] at h1 h2
  rw [hj] at h2
  rw [aGM h1]
  exact aHV h2
theorem aJe {L L':aK} {ms:List bV} (hb:L'.b = L.b) (he:L'.es = L.es ++ ms) {n:Nat} (hn:n <= L.last):atW L' n = atW L n:=by
  unfold atW
  rw [hb,he]
  unfold aK.last at hn
  split
  . rfl
  . exact List.getElem?_append_left (by omega)
theorem aJg {L L':aK} {u:Nat} (h:Suf L L' u) {n:Nat} {y:bV} (ha:atW L' n = some y):atW L n = some y:=by
  obtain ⟨h1,h2⟩:=qE ha
  have:=h.lo
  rw [h.es,List.getElem?_drop] at h2
  rw [aGM (by omega)]
  rw [show L'.b - L.b + (n - L'.b - 1) = n - L.b - 1 by omega] at h2
  exact h2
theorem mN.on {r:aA × aK × Nat} (h:mN r) (hg:aS r.1) {L:aK} (e:r.2.1 = L):jG r.1 L:=e ▸ ⟨h.2.2,h.1,h.2.1,hg⟩
theorem iL.on {D D':aA} {t v:Int} (h:iL D t v) (e:aC bN D'.files = aC bN D.files):iL D' t v:=by
  obtain ⟨l,h1,h2⟩:=h
  exact ⟨l,by rw [fI e];exact h1,h2⟩
theorem jG.on {D D':aA} {L:aK} (h:jG D L) (e:dK D' = dK D) (hd:D'.down = false) (hr:aZ D'.files) (hg:aS D'):jG D' L :=
  let ⟨P,hp⟩:=h.inv
  ⟨⟨P,hp.aAy e⟩,hd,hr,hg⟩
structure VCr (D:aA) (t v t' v':Int) (s:bI) (L:aK):Prop where
  eN:aS D
  ris:aZ D.files
  vl:aAQ D t v t' v'
  sf:gC D s
  lg:∃ P,dD D L P
  lo:(L.b:Int) <= s.i
theorem hE.cr {D:aA} {V:cC} (h:hE D V):VCr D V.t V.v V.t V.v V.s V.L:=⟨h.cut.eN,h.cut.ris,h.vf.loose _ _,h.sf,h.cut.inv,h.lo⟩
theorem aC8 {D:aA} {V:cC} (hb:V.br = false) (ms:List bV):dV D V ms = if (aP D V.L ms).2.2 ≠ 0 then ((aP D V.L ms).1,{ V with L:=(aP D V.L ms).2.1,br:=decide ((aP D V.L ms).2.2 = 50) },(aP D V.L ms).2.2)
    else ((bJ (aP D V.L ms).1 (aP D V.L ms).2.1).1,{ V with L:=(bJ (aP D V.L ms).1 (aP D V.L ms).2.1).2.1,br:=decide ((bJ (aP D V.L ms).1 (aP D V.L ms).2.1).2.2 = 50) },(bJ (aP D V.L ms).1 (aP D V.L ms).2.1).2.2):=by
  unfold dV
  rw [if_neg (by rw [hb];decide)]
theorem oZ {D:aA} {V:cC} (h:hE D V) (hs:D.steps + 300 <= 1000000000) (ms:List bV) :
    ((dV D V ms).1.down = false -> hE (dV D V ms).1 (dV D V ms).2.1) /\
    ((dV D V ms).1.down = true -> ∃ L,VCr (dV D V ms).1 V.t V.v V.t V.v V.s L /\ L.b = V.L.b /\ L.safe = V.L.es.length /\ (L.es = V.L.es \/ L.es = V.L.es ++ ms)) /\
    (dV D V ms).1.steps <= D.steps + 300:=by
  obtain ⟨⟨⟨P,hi⟩,hd,hr,hg⟩,hbr,hsf,hvf,hlo,hhi,htm,hsaf⟩:=h
  have hre:=nZ D V.L ms
  have hg1:=hre.eN hg (by omega)
  have hr1:=hre.rising hr
  have ha1:=aBK D V.L ms
  have ht1:=zV hd V.L ms
  have hap:=aJd (D:=D) hsaf ms
  have hlaw:=rH hi hd hr ms
  have sf1:gC (aP D V.L ms).1 V.s:=hsf.find (ha1.find nU)
  have vf1:iL (aP D V.L ms).1 V.t V.v:=hvf.on (ha1.find nV)
  rw [aC8 hbr]
  by_cases he:(aP D V.L ms).2.2 ≠ 0
  . rw [if_pos he]
    have hL:=hap.1 he
    refine ⟨fun hup=>?_,fun hdn=>?_,by have:=hg1.2;show (aP D V.L ms).1.steps <= _;omega⟩
    . have hup':(aP D V.L ms).1.down = false:=hup
      have hop:mN (aP D V.L ms):=hlaw.resolve_right fun q=>by rw [q.1] at hup';cases hup'
      have hbr':decide ((aP D V.L ms).2.2 = 50) = false:=decide_eq_false fun e=>by rw [ht1.2 e] at hup';cases hup'
      show hE (aP D V.L ms).1 { V with L:=(aP D V.L ms).2.1,br:=_ }
      rw [hL]
      exact ⟨hop.on hg1.1 hL,hbr',sf1,vf1,hlo,hhi,htm,hsaf⟩
    . have hdn':(aP D V.L ms).1.down = true:=hdn
      have hop:wH ms (aP D V.L ms):=hlaw.resolve_left fun q=>by rw [q.1] at hdn';cases hdn'
      obtain ⟨_,_,L,P',w1,w2,w3,w4⟩:=hop
      rw [hL] at w2 w3 w4
      exact ⟨L,⟨hg1.1,hr1,vf1.loose _ _,sf1,⟨P',w1⟩,by rw [w2];exact hlo⟩,w2,w3.trans hsaf,w4⟩
  . rw [if_neg he]
    obtain ⟨hLb,hLe,hLs⟩:=hap.2 (by omega)
    have hop:mN (aP D V.L ms):=hlaw.resolve_right fun q=>he (by rw [q.2.1];decide)
    obtain ⟨u1,u2,P1,u3⟩:=hop
    have hre2:=jL (aP D V.L ms).1 (aP D V.L ms).2.1
    have hg2:=hre2.eN hg1.1 (by have:=hg1.2;omega)
    have ha2:=qC (aP D V.L ms).1 (aP D V.L ms).2.1
    have sf2:gC (bJ (aP D V.L ms).1 (aP D V.L ms).2.1).1 V.s:=sf1.find (ha2.find nU)
    have vf2:iL (bJ (aP D V.L ms).1 (aP D V.L ms).2.1).1 V.t V.v:=vf1.on (ha2.find nV)
    have hsl:=yR u3 u1 u2
    generalize aP D V.L ms = r at *
    refine ⟨fun hup=>?_,fun hdn=>?_,by have:=hg1.2;have:=hg2.2;show (bJ r.1 r.2.1).1.steps <= _;omega⟩
    . have hup':(bJ r.1 r.2.1).1.down = false:=hup
      rcases hsl with ⟨_,q2,_⟩ | ⟨q1,q2,q3,q4,P',q5,_⟩
      . rw [q2] at hup';cases hup'
      . show hE (bJ r.1 r.2.1).1 { V with L:=(bJ r.1 r.2.1).2.1,br:=decide ((bJ r.1 r.2.1).2.2 = 50) }
        rw [q4,q1]
        refine ⟨⟨⟨P',q5⟩,q2,q3,hg2.1⟩,rfl,sf2,vf2,by show (r.2.1.b:Int) <= _;rw [hLb];exact hlo,?_,?_,rfl⟩
        . show V.s.i <= ((r.2.1.b + r.2.1.es.length:Nat):Int)
          rw [hLb,hLe,List.length_append]
          unfold aK.last at hhi
          omega
        . intro y hy
          have e:atW { r.2.1 with safe:=r.2.1.es.length } V.s.i.toNat = atW V.L V.s.i.toNat:=aJe (L:=V.L) (ms:=ms) hLb hLe (by omega)
          exact htm y (e ▸ hy)
    . have hdn':(bJ r.1 r.2.1).1.down = true:=hdn
      rcases hsl with ⟨q1,q2,q3,q4⟩ | ⟨_,q2,_⟩
      . exact ⟨r.2.1,⟨hg2.1,hre2.rising u2,vf2.loose _ _,sf2,⟨P1,q4⟩,by rw [hLb];exact hlo⟩,hLb,hLs,.inr hLe⟩
      . rw [q2] at hdn';cases hdn'
theorem xG {D:aA} {V:cC} (h:hE D V) (hs:D.steps + 300 <= 1000000000) (frm:Nat) :
    ((sD D V frm).1.down = false -> hE (sD D V frm).1 (sD D V frm).2.1) /\
    ((sD D V frm).1.down = true -> ∃ L,VCr (sD D V frm).1 V.t V.v V.t V.v V.s L /\ L.b = V.L.b /\ L.safe = L.es.length /\ L.es = V.L.es.take L.es.length /\ min (frm - V.L.b - 1) V.L.es.length <= L.es.length /\ L.es.length <= V.L.es.length /\ V.s.i < frm) /\
    (sD D V frm).1.steps <= D.steps + 300:=by
  have hkeep:=h
  obtain ⟨⟨⟨P,hi⟩,hd,hr,hg⟩,hbr,hsf,hvf,hlo,hhi,htm,hsaf⟩:=h
  have hfew:=hi.few hg
  unfold sD
  rw [if_neg (by rw [hbr];decide)]
  by_cases hf:(frm:Int) <= V.s.i
  . rw [if_pos hf]
    refine ⟨fun _=>hkeep,fun q=>?_,by show D.steps <= _;omega⟩
    have q':D.down = true:=q
    rw [hd] at q'
    cases q'
  . rw [if_neg hf]
    have hre:=aFX D V.L frm
    have hg1:=hre.eN hg (by omega)
    have hr1:=hre.rising hr
    have ha1:=aGK D V.L frm
    have ht1:=aD0 hd V.L frm
    obtain ⟨hp,hmin⟩:=aIJ hi hd hr frm
    have hlaw:=aIh hi hd hr frm
    have sf1:gC (fW D V.L frm).1 V.s:=hsf.find (ha1.find nU)
    have vf1:iL (fW D V.L frm).1 V.t V.v:=hvf.on (ha1.find nV)
    refine ⟨fun hup=>?_,fun hdn=>?_,by have:=hg1.2;show (fW D V.L frm).1.steps <= _;omega⟩
    . have hup':(fW D V.L frm).1.down = false:=hup
      have hop:mN (fW D V.L frm):=hlaw.resolve_right fun q=>by rw [q.1] at hup';cases hup'
      have hbr':decide ((fW D V.L frm).2.2 = 50) = false:=decide_eq_false fun e=>by rw [ht1.2 e] at hup';cases hup'
      refine ⟨hop.on hg1.1 rfl,hbr',sf1,vf1,by show ((fW D V.L frm).2.1.b:Int) <= _;rw [hp.b];exact hlo,?_,fun y hy=>htm y (aJf hp hy),hp.safe hsaf⟩
      show V.s.i <= (((fW D V.L frm).2.1.b + (fW D V.L frm).2.1.es.length:Nat):Int)
      rw [hp.b]
      unfold aK.last at hhi
      omega
    . have hdn':(fW D V.L frm).1.down = true:=hdn
      have hop:wH [] (fW D V.L frm):=hlaw.resolve_left fun q=>by rw [q.1] at hdn';cases hdn'
      obtain ⟨_,_,L,P',w1,w2,w3,w4⟩:=hop
      have w4':L.es = (fW D V.L frm).2.1.es:=by
        rcases w4 with w4 | w4
        . exact w4
        . rw [w4,List.append_nil]
      have hl:=hp.len
      rw [<- w4'] at hl hmin
      exact ⟨L,⟨hg1.1,hr1,vf1.loose _ _,sf1,⟨P',w1⟩,by rw [w2,hp.b];exact hlo⟩,w2.trans hp.b,by rw [w3,hp.safe hsaf,w4'],hl.1,hmin,hl.2,by omega⟩
theorem uA {D:aA} {V:cC} (h:hE D V) (hs:D.steps + 300 <= 1000000000) (t' v':Int) (ht:0 <= t') :
    ((oN D V t' v').1.down = false -> hE (oN D V t' v').1 (oN D V t' v').2.1) /\
    ((oN D V t' v').1.down = true -> VCr (oN D V t' v').1 V.t V.v t' v' V.s V.L) /\
    (oN D V t' v').1.steps <= D.steps + 300:=by
  obtain ⟨⟨⟨P,hi⟩,hd,hr,hg⟩,hbr,hsf,hvf,hlo,hhi,htm,hsaf⟩:=h
  unfold oN
  rw [if_neg (by rw [hbr];decide)]
  have ha:=aE0 D V.t V.v t' v'
  have hg1:=aDu V.t V.v t' v' hg (by omega)
  have hr1:=ha.rising hr
  have hl1:=ha.dK aAv
  have ht1:=aDY hd V.t V.v t' v'
  have sf1:gC (dE D V.t V.v t' v').1 V.s:=hsf.find (ha.find aEI)
  obtain ⟨k1,k2,k3⟩:=aHg hd hvf t' v' ht
  refine ⟨fun hup=>?_,fun hdn=>⟨hg1.1,hr1,(k3 hdn).1,sf1,⟨P,hi.aAy hl1⟩,hlo⟩,by have:=hg1.2;show (dE D V.t V.v t' v').1.steps <= _;omega⟩
  have hup':(dE D V.t V.v t' v').1.down = false:=hup
  have hbr':decide ((dE D V.t V.v t' v').2 = 50) = false:=decide_eq_false fun e=>by rw [ht1.2 e] at hup';cases hup'
  refine ⟨⟨⟨P,hi.aAy hl1⟩,hup',hr1,hg1.1⟩,hbr',sf1,?_,hlo,hhi,htm,hsaf⟩
  show iL (dE D V.t V.v t' v').1 (if (dE D V.t V.v t' v').2 = 0 then t' else V.t) (if (dE D V.t V.v t' v').2 = 0 then v' else V.v)
  by_cases he:(dE D V.t V.v t' v').2 = 0
  . rw [if_pos he,if_pos he]
    exact (k1 he).2
  . rw [if_neg he,if_neg he]
    exact k2 he hup'
def aJb (D:aA) (V:cC) (x:bI):Prop :=
  VCr D V.t V.v V.t V.v V.s V.L \/ (V.s.i < x.i /\ x.ok /\ ∃ L,VCr D V.t V.v V.t V.v x L /\
    ((∃ y,atW V.L x.i.toNat = some y /\ y.t = x.t /\ Suf V.L L x.i.toNat /\ L.safe = L.es.length) \/ ((∀ y,atW V.L x.i.toNat = some y -> y.t ≠ x.t) /\ Pre V.L L)))
theorem uN {D:aA} {V:cC} (h:hE D V) (hs:D.steps + 300 <= 1000000000) (x:bI) :
    ((gM D V x).1.down = false -> hE (gM D V x).1 (gM D V x).2.1) /\
    ((gM D V x).1.down = true -> aJb (gM D V x).1 V x) /\
    (gM D V x).1.steps <= D.steps + 300:=by
  obtain ⟨⟨⟨P,hi⟩,hd,hr,hg⟩,hbr,hsf,hvf,hlo,hhi,htm,hsaf⟩:=h
  have hfew:=hi.few hg
  have ha:=tP D V.s x
  have hg1:=oD V.s x hg (by omega)
  have hr1:=ha.rising hr
  have hl1:=ha.dK uF
  have ht1:=yW hd V.s x
  have vf1:iL (cJ D V.s x).1 V.t V.v:=hvf.on (ha.find aEH)
  obtain ⟨sf1,hok⟩:=aCx hd hsf x
  have hi1:dD (cJ D V.s x).1 V.L P:=hi.aAy hl1
  unfold gM
  rw [if_neg (by rw [hbr];decide)]
  by_cases he:(cJ D V.s x).2 ≠ 0
  . rw [if_pos he]
    rw [if_neg he] at sf1
    refine ⟨fun hup=>?_,fun hdn=>.inl ⟨hg1.1,hr1,vf1.loose _ _,sf1,⟨P,hi1⟩,hlo⟩,by have:=hg1.2;show (cJ D V.s x).1.steps <= _;omega⟩
    have hup':(cJ D V.s x).1.down = false:=hup
    have hbr':decide ((cJ D V.s x).2 = 50) = false:=decide_eq_false fun e=>by rw [ht1.2 e] at hup';cases hup'
    exact ⟨⟨⟨P,hi1⟩,hup',hr1,hg1.1⟩,hbr',sf1,vf1,hlo,hhi,htm,hsaf⟩
  . rw [if_neg he]
    have he0:(cJ D V.s x).2 = 0:=by omega
    rw [if_pos he0] at sf1
    obtain ⟨hlt,hxok⟩:=hok he0
    have hup1:=ht1.ok he
    have hx0:((x.i.toNat:Nat):Int) = x.i:=Int.toNat_of_nonneg (by have:=hxok.1;omega)
    have hx59:x.i.toNat < H59:=by have:=hxok.2.1;unfold H59;omega
    generalize hD1:(cJ D V.s x).1 = D1 at *
    by_cases ho:(atW V.L x.i.toNat).any (fun y=>y.t == x.t) = true
    . rw [if_pos ho]
      obtain ⟨y,hy,hyt⟩:∃ y,atW V.L x.i.toNat = some y /\ y.t = x.t:=by
        cases e:atW V.L x.i.toNat with
        | none=>rw [e] at ho;simp at ho
        | some y=>rw [e] at ho;exact ⟨y,rfl,by simpa using ho⟩
      have hle:=aJQ hy
      have hsu:=aHU hi1 x.i.toNat
      have hre:=aDM D1 V.L x.i.toNat
      have hg2:=hre.eN hg1.1 (by have:=hg1.2;omega)
      have hr2:=hre.rising hr1
      have ha2:=aE2 D1 V.L x.i.toNat
      have ht2:=aCJ hup1 V.L x.i.toNat
      have hlaw:=aG0 hi1 hup1 hr1 x.i.toNat
      have sf2:gC (eF D1 V.L x.i.toNat).1 x:=sf1.find (ha2.find nU)
      have vf2:iL (eF D1 V.L x.i.toNat).1 V.t V.v:=vf1.on (ha2.find nV)
      have hb':=hsu.hi (by omega)
      refine ⟨fun hup=>?_,fun hdn=>.inr ⟨hlt,hxok,?_⟩,by have:=hg1.2;have:=hg2.2;show (eF D1 V.L x.i.toNat).1.steps <= _;omega⟩
      . have hup':(eF D1 V.L x.i.toNat).1.down = false:=hup
        have hop:mN (eF D1 V.L x.i.toNat):=hlaw.resolve_right fun q=>by rw [q.1] at hup';cases hup'
        have hbr':decide ((eF D1 V.L x.i.toNat).2.2 = 50) = false:=decide_eq_false fun e=>by rw [ht2.2 e] at hup';cases hup'
        refine ⟨hop.on hg2.1 rfl,hbr',sf2,vf2,by show ((eF D1 V.L x.i.toNat).2.1.b:Int) <= x.i;omega,?_,fun z hz=>?_,hsu.safe hsaf⟩
        . show x.i <= (((eF D1 V.L x.i.toNat).2.1.b + (eF D1 V.L x.i.toNat).2.1.es.length:Nat):Int)
          rw [hsu.es,List.length_drop]
          have:=hsu.lo
          unfold aK.last at hle
          omega
        . have hz':atW V.L x.i.toNat = some z:=aJg hsu hz
          rw [hy] at hz'
          rw [<- Option.some.inj hz']
          exact hyt
      . have hdn':(eF D1 V.L x.i.toNat).1.down = true:=hdn
        have hop:wH [] (eF D1 V.L x.i.toNat):=hlaw.resolve_left fun q=>by rw [q.1] at hdn';cases hdn'
        obtain ⟨_,_,L,P',w1,w2,w3,w4⟩:=hop
        have w4':L.es = (eF D1 V.L x.i.toNat).2.1.es:=by
          rcases w4 with w4 | w4
          . exact w4
          . rw [w4,List.append_nil]
        exact ⟨L,⟨hg2.1,hr2,vf2.loose _ _,sf2,⟨P',w1⟩,by rw [w2];omega⟩,.inl ⟨y,hy,hyt,⟨by rw [w2];exact hsu.lo,by rw [w4',w2];exact hsu.es,fun q=>by rw [w2];exact hsu.hi q,fun q=>by rw [w3,w4'];exact hsu.safe q⟩,by rw [w3,w4'];exact hsu.safe hsaf⟩⟩
    . rw [if_neg ho]
      have hno:∀ y,atW V.L x.i.toNat = some y -> y.t ≠ x.t:=fun y hy e=>ho (by rw [hy];simpa using e)
      have hre:=oB D1 V.L x.i.toNat
      have hg2:=hre.eN hg1.1 (by have:=hg1.2;omega)
      have hr2:=hre.rising hr1
      have ha2:=rF D1 V.L x.i.toNat
      have sf2:gC (bH D1 V.L x.i.toNat).1 x:=sf1.find (ha2.find nU)
      have vf2:iL (bH D1 V.L x.i.toNat).1 V.t V.v:=vf1.on (ha2.find nV)
      have hlaw:=uM hx59 V.L.fs.length hi1 hup1 hr1 (by rw [hi1.fs,List.length_map];exact Nat.le_refl _)
      have hpre:=nC x.i.toNat V.L.fs.length D1 V.L
      have hrw:bH D1 V.L x.i.toNat = resetF x.i.toNat V.L.fs.length D1 V.L:=by
        unfold bH
        rw [if_neg (by omega)]
      rw [<- hrw] at hlaw hpre
      refine ⟨fun hup=>?_,fun hdn=>.inr ⟨hlt,hxok,?_⟩,by have:=hg1.2;have:=hg2.2;show (bH D1 V.L x.i.toNat).1.steps <= _;omega⟩
      . have hup':(bH D1 V.L x.i.toNat).1.down = false:=hup
        rcases hlaw with ⟨_,q2,_⟩ | ⟨q1,q2,q3,q4,q5⟩
        . rw [q2] at hup';cases hup'
        . refine ⟨⟨⟨_,q4⟩,q2,q3,hg2.1⟩,by show decide ((bH D1 V.L x.i.toNat).2.2 = 50) = false;rw [q1];rfl,sf2,vf2,?_,?_,?_,?_⟩
          . show ((bH D1 V.L x.i.toNat).2.1.b:Int) <= x.i
            rw [q5]
            show ((x.i.toNat:Nat):Int) <= x.i
            omega
          . show x.i <= ((bH D1 V.L x.i.toNat).2.1.last:Int)
            rw [q5]
            show x.i <= ((x.i.toNat + 0:Nat):Int)
            omega
          . intro y hy
            have hy':atW (bH D1 V.L x.i.toNat).2.1 x.i.toNat = some y:=hy
            rw [q5] at hy'
            exact absurd (qE hy').1 (by show ¬ x.i.toNat < x.i.toNat;omega)
          . show (bH D1 V.L x.i.toNat).2.1.safe = (bH D1 V.L x.i.toNat).2.1.es.length
            rw [q5]
            rfl
      . have hdn':(bH D1 V.L x.i.toNat).1.down = true:=hdn
        rcases hlaw with ⟨q1,q2,P',q3⟩ | ⟨_,q2,_⟩
        . have hp:Pre V.L (bH D1 V.L x.i.toNat).2.1:=hpre.2 (by rw [q1];decide)
          exact ⟨_,⟨hg2.1,hr2,vf2.loose _ _,sf2,⟨P',q3⟩,by rw [hp.b];omega⟩,.inr ⟨hno,hp⟩⟩
        . rw [q2] at hdn';cases hdn'

theorem aDv {D:aA} {L:aK} {P:List Pc} (h:dD D L P) (ts:List (Nat × Nat)) {D':aA} (hc:Calm D') (hr:aZ D'.files) (hl:dK D' = dK (cE D ts)):wU D' L.b L.es L.safe L.es.length:=by
  by_cases hP:P = []
  . subst hP
    obtain ⟨h1,h2⟩:=uJ hc h.lo.1 (hl.trans (aDb h ts))
    have he:L.es = []:=h.es
    have hs:L.safe = 0:=by
      have:=h.safe
      rw [he] at this
      exact Nat.le_zero.1 this
    exact ⟨_,_,_,h1,hc,hr,h2,rfl,rfl,0,by omega,Nat.zero_le _,rfl⟩
  . obtain ⟨A,z,rfl⟩:=eP hP
    obtain ⟨M,h1,h2⟩:=aE9 h ts
    have hfull:∀ p ∈ A,p.k = p.w.length /\ 1024 <= p.w.length /\ p.es ≠ []:=by have:=h.full;rwa [List.dropLast_concat] at this
    have hsafe:=h.aHJ
    have hhi:=h.hi
    rw [h.es] at hhi
    have ho:=aHy hc hr h.lo.1 (hl.trans h1) h2 h.ch (fun p hp=>aEJ h hp) hfull hhi
    rw [<- h.es] at ho
    rwa [show (cA A).length + (L.safe - (cA A).length) = L.safe by omega] at ho
theorem aJx (D:aA) {L L':aK} (h:L.fs = L'.fs):(popW D L).1 = (popW D L').1 /\ (popW D L).2.2 = (popW D L').2.2 /\ (popW D L).2.1.fs = (popW D L').2.1.fs:=by
  unfold popW
  rw [h]
  cases L'.fs.getLast? with
  | none=>exact ⟨rfl,rfl,h⟩
  | some f =>
    simp only
    split
    . exact ⟨rfl,rfl,h⟩
    . exact ⟨rfl,rfl,rfl⟩
theorem yG (a c:Nat):∀ (n:Nat) (D:aA) {L L':aK},L.fs = L'.fs -> (resetF a n D L).1 = (resetF c n D L').1 /\ (resetF a n D L).2.2 = (resetF c n D L').2.2
  | 0,_,_,_,_=>⟨rfl,rfl⟩
  | n + 1,D,L,L',h=>by
    obtain ⟨p1,p2,p3⟩:=aJx D h
    unfold resetF
    rw [h,p2]
    split
    . exact ⟨rfl,rfl⟩
    . split
      . exact ⟨p1,p2⟩
      . rw [p1]
        exact yG a c n _ p3
theorem aH3 {D:aA} {L:aK} (h:dD D L []) {base:Nat} (hb:base < H59):dD D ⟨base,[],[],0⟩ [] :=
  ⟨h.fil,rfl,rfl,trivial,(fun e he=>by cases he),(by show base + 0 <= H59;omega),(fun p hp=>by cases hp),Nat.le_refl _,(fun A z e=>by cases A <;> cases e),hb,(fun p hp=>by cases hp)⟩
theorem aFS {D:aA} {b m n:Nat} {es:List bV} (h:wU D b es m n) (hn:n <= es.length) {si:Nat} (hsi:b <= si) (h59:si < H59) :
    ∃ D3 L3 P3 j,fD D si = (D3,some L3,0) /\ Calm D3 /\ aZ D3.files /\ dD D3 L3 P3 /\ L3.safe = L3.es.length /\ m <= j /\ j <= n /\ ((L3.b = b /\ L3.es = es.take j /\ si <= b + j) \/ (L3 = ⟨si,[],[],0⟩ /\ (b + j < si \/ j = 0))):=by
  obtain ⟨D2,L2,P2,h1,hc2,hr2,hi2,hb2,hs2,j,j1,j2,j3⟩:=h
  have hlen:L2.es.length = j:=by rw [j3,List.length_take];omega
  unfold fD at h1 ⊢
  by_cases hdn:D.down = true
  . rw [if_pos hdn] at h1;cases h1
  . rw [if_neg hdn] at h1 ⊢
    by_cases hb59:H59 <= b
    . rw [if_pos hb59] at h1;cases h1
    . rw [if_neg hb59] at h1
      rw [if_neg (by omega:¬ H59 <= si)]
      by_cases hl:(loadW (dP D) D ⟨0,[],[],0⟩).2.2 ≠ 0
      . rw [if_pos hl] at h1;cases h1
      . rw [if_neg hl] at h1 ⊢
        generalize (loadW (dP D) D ⟨0,[],[],0⟩).1 = E at *
        generalize (loadW (dP D) D ⟨0,[],[],0⟩).2.1 = L1 at *
        unfold pO at h1 ⊢
        by_cases hst:(bP E L1).2 ≠ 0
        . rw [if_pos hst] at h1;cases h1
        . rw [if_neg hst] at h1 ⊢
          generalize (bP E L1).1 = F at *
          unfold iG at h1 ⊢
          simp only at h1 ⊢
          by_cases hcb:L1.fs = [] \/ L1.last < b
          . have hcs:L1.fs = [] \/ L1.last < si:=hcb.imp id fun q=>by omega
            rw [if_pos hcb] at h1
            rw [if_pos hcs]
            unfold bH at h1 ⊢
            rw [if_neg hb59] at h1
            rw [if_neg (by omega:¬ H59 <= si)]
            obtain ⟨r1,r2⟩:=yG b si L1.fs.length F (L:=L1) (L':=L1) rfl
            by_cases he:(resetF b L1.fs.length F L1).2.2 ≠ 0
            . rw [if_pos he] at h1;cases h1
            . rw [if_neg he] at h1
              have e1:=(nC b L1.fs.length F L1).1 (by omega)
              have e2:=(nC si L1.fs.length F L1).1 (by rw [<- r2];omega)
              rw [e1] at h1
              rw [if_neg (show ¬ b < b by omega)] at h1
              rw [if_neg (by rw [<- r2];exact he),e2,if_neg (show ¬ si < si by omega)]
              simp only [Prod.mk.injEq,Option.some.injEq,and_true] at h1
              obtain ⟨q1,q2⟩:=h1
              subst q2
              have hj0:j = 0:=by rw [<- hlen];rfl
              have hP:P2 = []:=List.map_eq_nil_iff.1 (show P2.map Pc.wf = [] from hi2.fs.symm)
              subst hP
              exact ⟨_,_,[],j,rfl,by rw [<- r1,q1];exact hc2,by rw [<- r1,q1];exact hr2,by rw [<- r1,q1];exact aH3 hi2 h59,rfl,j1,j2,.inr ⟨rfl,.inr hj0⟩⟩
          . rw [if_neg hcb] at h1
            have hne:¬ L1.fs = []:=fun e=>hcb (.inl e)
            rw [if_neg (fun q=>q rfl)] at h1
            by_cases hbb:b < L1.b
            . rw [if_pos hbb] at h1;cases h1
            . rw [if_neg hbb] at h1
              simp only [Prod.mk.injEq,Option.some.injEq,and_true] at h1
              obtain ⟨q1,q2⟩:=h1
              have hL1b:L1.b = b:=by rw [<- hb2,<- q2]
              have hL1e:L1.es = L2.es:=by rw [<- q2]
              have hL1f:L1.fs = L2.fs:=by rw [<- q2]
              have hlast:L1.last = b + j:=by unfold aK.last;rw [hL1b,hL1e,hlen]
              by_cases hls:L1.last < si
              . rw [if_pos (show L1.fs = [] \/ L1.last < si from .inr hls)]
                unfold bH
                rw [if_neg (by omega:¬ H59 <= si)]
                obtain ⟨r1,r2⟩:=yG si si L1.fs.length F (L:=L1) (L':=L2) hL1f
                rw [q1] at r1 r2
                have hre:=pQ si L1.fs.length D2 L2
                have hcalm:=hre.calm hc2
                rcases uM h59 L1.fs.length hi2 hc2.1 hr2 (by rw [hL1f,hi2.fs,List.length_map];exact Nat.le_refl _) with ⟨_,k2,_⟩ | ⟨k1,k2,k3,k4,k5⟩
                . rw [hcalm.1] at k2;cases k2
                . rw [q1]
                  have e2:=(nC si L1.fs.length D2 L1).1 (by rw [r2];exact k1)
                  rw [if_neg (by rw [r2,k1];decide),e2,if_neg (show ¬ si < si by omega)]
                  rw [k5] at k4
                  exact ⟨_,_,[],j,rfl,by rw [r1];exact hcalm,by rw [r1];exact k3,by rw [r1];exact k4,rfl,j1,j2,.inr ⟨rfl,.inl (by omega)⟩⟩
              . rw [if_neg (show ¬ (L1.fs = [] \/ L1.last < si) from fun q=>q.elim hne hls),if_neg (fun q=>q rfl),if_neg (show ¬ si < L1.b by omega)]
                exact ⟨D2,L2,P2,j,by simp only;rw [q1,q2],hc2,hr2,hi2,hs2,j1,j2,.inl ⟨hb2,j3,by omega⟩⟩
def aGJ (V:cC):List bV:=V.L.es.drop (V.s.i.toNat - V.L.b)
structure aGE (D:aA) (t v t' v':Int) (s:bI) (L:aK) (D':aA) (V':cC):Prop where
  inv:hE D' V'
  calm:Calm D'
  st:(V'.t = t /\ V'.v = v) \/ (V'.t = t' /\ V'.v = v')
  sn:V'.s = s
  es:∃ j,L.safe <= j /\ j <= L.es.length /\ ((aGJ V' = (L.es.take j).drop (s.i.toNat - L.b) /\ ∀ y,L.b < s.i.toNat -> (L.es.take j)[s.i.toNat - L.b - 1]? = some y -> y.t = s.t) \/ (aGJ V' = [] /\ ∃ y,L.b < s.i.toNat /\ (L.es.take j)[s.i.toNat - L.b - 1]? = some y /\ y.t ≠ s.t))
  steps:D'.steps <= D.steps + 600
structure aBG (D:aA) (t v t' v':Int) (s:bI) (L:aK) (D0 D1 D3:aA) (L3:aK) (p q:Int) (j:Nat):Prop where
  h1:dH D0 = (D1,0)
  h2:gN D1 = 0
  hs:dJ D1 = s
  h3:fD (bU D1).1 s.i.toNat = (D3,some L3,0)
  st:(p = t /\ q = v) \/ (p = t' /\ q = v')
  vt:(eA D0).t = p /\ (eA D0).v = q
  cut:jG D3 L3
  calm:Calm D3
  sf:gC D3 s
  vf:iL D3 p q
  saf:L3.safe = L3.es.length
  j1:L.safe <= j
  j2:j <= L.es.length
  es:(L3.b = L.b /\ L3.es = L.es.take j /\ s.i.toNat <= L.b + j) \/ (L3 = ⟨s.i.toNat,[],[],0⟩ /\ (L.b + j < s.i.toNat \/ j = 0))
  good0:aS D0
  steps0:D0.steps = D.steps
  steps:D3.steps <= D.steps + 300
theorem aGu {D:aA} {t v t' v':Int} {s:bI} {L:aK} (h:VCr D t v t' v' s L) (hst:D.steps + 2000 <= 1000000000) (ts:List (Nat × Nat)):∃ D1 D3 L3 p q j,aBG D t v t' v' s L (eW (cE D ts)) D1 D3 L3 p q j:=by
  obtain ⟨hg,hr,hvl,hsf,⟨P,hi⟩,hlo⟩:=h
  obtain ⟨hs0,hs59⟩:=hsf.range
  have hg0:aS (eW (cE D ts)):=(hg.aEs ts).aKe
  obtain ⟨v1,v2,p,q,v3,v4,v5,v6⟩:=aE8 hr hvl ts
  have hav:=aC6 (eW (cE D ts))
  have hr0:aZ (eW (cE D ts)).files:=tA ts hr
  have sf0:gC (eW (cE D ts)) s:=hsf.aEs hr ts
  have sf1:gC (dH (eW (cE D ts))).1 s:=sf0.find (hav.find aEI)
  obtain ⟨s1,s2,s3,s4⟩:=aF6 v2 sf1
  have hag:=zL (dH (eW (cE D ts))).1
  have hg1:=wC hg0 (by show D.steps + 3 <= _;omega)
  have hst0:(eW (cE D ts)).steps = D.steps:=rfl
  have hg2:=nN hg1.1 (by have:=hg1.2;omega)
  have hlog:dK (bU (dH (eW (cE D ts))).1).1 = dK (cE D ts):=((hag.dK uF).trans (hav.dK aAv))
  have hop:=aDv hi ts s3 (hag.rising (hav.rising hr0)) hlog
  obtain ⟨D3,L3,P3,j,o1,o2,o3,o4,o5,o6,o7,o8⟩:=aFS hop (Nat.le_refl _) (si:=s.i.toNat) (by omega) (by unfold H59;omega)
  have hao:=aE3 (bU (dH (eW (cE D ts))).1).1 s.i.toNat
  have hre:=aDN (bU (dH (eW (cE D ts))).1).1 s.i.toNat
  have hnf:=aFO hg2.1
  have hg3:=hre.eN hg2.1 (by have:=hg1.2;have:=hg2.2;omega)
  rw [o1] at hao hg3
  have vf2:iL (bU (dH (eW (cE D ts))).1).1 p q:=v6.on (hag.find aEH)
  refine ⟨(dH (eW (cE D ts))).1,D3,L3,p,q,j,⟨?_,s1,s2,o1,v3,⟨v4,v5⟩,⟨⟨P3,o4⟩,o2.1,o3,hg3.1⟩,o2,s4.find (hao.find nU),vf2.on (hao.find nV),o5,o6,o7,o8,hg0,hst0,?_⟩⟩
  . rw [<- v1]
  . have:=hg1.2
    have:=hg2.2
    have h9:D3.steps <= (bU (dH (eW (cE D ts))).1).1.steps + (2 * (dP (bU (dH (eW (cE D ts))).1).1).length + 2):=hg3.2
    omega
theorem aBG.same {D:aA} {t v t' v':Int} {s:bI} {L:aK} {D0 D1 D3:aA} {L3:aK} {p q:Int} {j:Nat} (h:aBG D t v t' v' s L D0 D1 D3 L3 p q j) (hlo:(L.b:Int) <= s.i) (hy:∀ y,atW L3 s.i.toNat = some y -> y.t = s.t):aGE D t v t' v' s L D3 ⟨p,q,s,L3,false⟩:=by
  have hs0:=h.sf.range.1
  refine ⟨⟨h.cut,rfl,h.sf,h.vf,?_,?_,hy,h.saf⟩,h.calm,h.st,rfl,⟨j,h.j1,h.j2,.inl ?_⟩,by have:=h.steps;omega⟩
  . show (L3.b:Int) <= s.i
    rcases h.es with ⟨e,_,_⟩ | ⟨e,_⟩
    . rw [e];exact hlo
    . rw [e];show ((s.i.toNat:Nat):Int) <= s.i;omega
  . show s.i <= ((L3.b + L3.es.length:Nat):Int)
    rcases h.es with ⟨e,e2,e3⟩ | ⟨e,_⟩
    . have:=h.j2
      rw [e,e2,List.length_take];omega
    . rw [e];show s.i <= ((s.i.toNat + 0:Nat):Int);omega
  . show L3.es.drop (s.i.toNat - L3.b) = _ /\ _
    rcases h.es with ⟨e,e2,e3⟩ | ⟨e,e2⟩
    . refine ⟨by rw [e,e2],fun y h1 h2=>hy y ?_⟩
      rw [aGM (by omega),e,e2]
      exact h2
    . have hnil:(L.es.take j).length <= s.i.toNat - L.b:=by rw [List.length_take];omega
      refine ⟨by rw [e,List.drop_eq_nil_of_le hnil];exact List.drop_nil,fun y h1 h2=>?_⟩
      have:=(List.getElem?_eq_some_iff.1 h2).1
      rw [List.length_take] at this
      omega
theorem aBG.reset {D:aA} {t v t' v':Int} {s:bI} {L:aK} {D0 D1 D3:aA} {L3:aK} {p q:Int} {j:Nat} (h:aBG D t v t' v' s L D0 D1 D3 L3 p q j) (hst:D.steps + 2000 <= 1000000000) {y:bV} (hy:atW L3 s.i.toNat = some y) (hyt:y.t ≠ s.t) :
    ∃ D4,bH D3 L3 s.i.toNat = (D4,⟨s.i.toNat,[],[],0⟩,0) /\ aGE D t v t' v' s L D4 ⟨p,q,s,⟨s.i.toNat,[],[],0⟩,false⟩:=by
  obtain ⟨hs0,hs59⟩:=h.sf.range
  obtain ⟨P,hi⟩:=h.cut.inv
  have hfew:=hi.few h.cut.eN
  have hx59:s.i.toNat < H59:=by unfold H59;omega
  have hre:=oB D3 L3 s.i.toNat
  have hst3:=h.steps
  have hg4:=hre.eN h.cut.eN (by omega)
  have hc4:=hre.calm h.calm
  have ha4:=rF D3 L3 s.i.toNat
  have hlaw:=uM hx59 L3.fs.length hi h.cut.up h.cut.ris (by rw [hi.fs,List.length_map];exact Nat.le_refl _)
  have hrw:bH D3 L3 s.i.toNat = resetF s.i.toNat L3.fs.length D3 L3:=by
    unfold bH
    rw [if_neg (by omega)]
  rw [<- hrw] at hlaw
  rcases hlaw with ⟨_,q2,_⟩ | ⟨q1,q2,q3,q4,q5⟩
  . rw [hc4.1] at q2;cases q2
  . have e:bH D3 L3 s.i.toNat = ((bH D3 L3 s.i.toNat).1,⟨s.i.toNat,[],[],0⟩,0):=by rw [<- q5,<- q1]
    refine ⟨_,e,?_⟩
    rw [q5] at q4
    obtain ⟨y1,y2⟩:=qE hy
    have hes:L3.b = L.b /\ L3.es = L.es.take j /\ s.i.toNat <= L.b + j:=h.es.resolve_right fun q=>by
      rw [q.1] at y1
      exact absurd y1 (by show ¬ s.i.toNat < s.i.toNat;omega)
    refine ⟨⟨⟨⟨_,q4⟩,q2,q3,hg4.1⟩,rfl,h.sf.find (ha4.find nU),h.vf.on (ha4.find nV),?_,?_,?_,rfl⟩,hc4,h.st,rfl,⟨j,h.j1,h.j2,.inr ⟨List.drop_nil,y,?_,?_,hyt⟩⟩,by have:=hg4.2;omega⟩
    . show ((s.i.toNat:Nat):Int) <= s.i;omega
    . show s.i <= ((s.i.toNat + 0:Nat):Int);omega
    . intro z hz
      exact absurd (qE hz).1 (by show ¬ s.i.toNat < s.i.toNat;omega)
    . rw [<- hes.1];exact y1
    . rw [<- hes.1,<- hes.2.1];exact y2
end Go.Proofs.YtjdglpcnkiioeaaGreat
namespace Go.Proofs.YtjdglpcnkiioeaaGreat
open Go.Lib (hid)
open Go.ChangeShapes Go.WideShapes Go.ChangeAt Go.RowKit Go.Deep Go.Proofs.Own

structure TOp where
  k:Int
  n:Int
  a:Nat
  lv:Value
  l:List wG
  st:Int
  sv:Int
  i:Nat
  t:Int
  am:Option Addr
  nm:Nat
  cm:Nat
  ad:Option Addr
  nd:Nat
  cd:Nat
  tv:Value
  ts:List (Nat × Nat)
def aGh (r:TOp):List Value:=[.int .i64 r.k,.int .i64 r.n,.int .u64 r.a,r.lv,.int .u64 r.st,.int .i64 r.sv,.int .u64 r.i,.int .u64 r.t,.slice r.am r.nm r.cm,.slice r.ad r.nd r.cd,r.tv]
structure wY (w:World) (r:TOp):Prop where
  n:r.n <= 9223372036854775807
  a:(r.a:Int) < 18446744073709551616
  l:kO w r.lv r.l
  st:0 <= r.st /\ r.st < 18446744073709551616
  i:(r.i:Int) < 18446744073709551616
  t:0 <= r.t /\ r.t < 18446744073709551616
  m:r.nm <= 2097152 -> ∃ l,l.length = r.nm /\ Ints w (.slice r.am r.nm r.cm) l
  d:r.nd <= 2097152 -> ∃ l,l.length = r.nd /\ Bytes w (.slice r.ad r.nd r.cd) l
  ts:dU w r.tv r.ts
def oY (w:World) (v:Value) (rs:List TOp):Prop:=dN w 11 v (rs.map aGh) /\ (∀ r ∈ rs,wY w r) /\ rs.length <= maxLen
theorem vD:Tryz.prog.cellsOf 75 = 4:=by kernel_rfl
theorem aBQ:Tryz.prog.cellsOf 73 = 1:=by kernel_rfl
theorem rY:Tryz.prog.cellsOf 97 = 2:=by kernel_rfl
theorem aBR:Tryz.prog.cellsOf 99 = 11:=by kernel_rfl
section
variable {H:Type} {enc:TypeId × Value -> H} {W:World}
set_option maxRecDepth 100000 in
theorem aCp {n:Nat} {cs:List Value} {y:DataW H × List MemPlace} (h:DataW.trod enc Tryz.prog W 0 (fun _=>true) true n 75 cs = some y):∃ (i:Nat) (t:Int) (am:Option Addr) (nm cm:Nat) (ad:Option Addr) (nd cd:Nat),cs = [.int .u64 i,.int .u64 t,.slice am nm cm,.slice ad nd cd] /\ (i:Int) < 18446744073709551616 /\ (0 <= t /\ t < 18446744073709551616) /\ (nm <= 2097152 -> ∃ l,l.length = nm /\ Ints W (.slice am nm cm) l) /\ (nd <= 2097152 -> ∃ l,l.length = nd /\ Bytes W (.slice ad nd cd) l):=by
  obtain ⟨xs,k,_,_,hl,hxl,hg⟩:=DataW.trod_struct Tryz.underlying75 h
  rw [vD] at hl
  match cs,hl with
  | [c0,c1,c2,c3],_ =>
    match xs,hxl with
    | [y0,y1,y2,y3],_ =>
      have g0:=hg 0 _ rfl
      have g1:=hg 1 _ rfl
      have g2:=hg 2 _ rfl
      have g3:=hg 3 _ rfl
      simp only [List.getElem_toArray,List.getElem_cons_zero,List.getElem_cons_succ] at g0 g1 g2 g3
      rw [rZ] at g0 g1
      rw [aBQ] at g2
      rw [vC] at g3
      simp only [List.drop_zero,List.drop_succ_cons,List.take_succ_cons,List.take_zero,List.getElem?_cons_zero,List.getElem?_cons_succ] at g0 g1 g2 g3
      obtain ⟨z0,e0,_,w0⟩:=DataW.trod_int Tryz.underlying22 g0
      obtain rfl:c0 = .int .u64 z0:=by simpa using e0
      obtain ⟨z1,e1,_,w1⟩:=DataW.trod_int Tryz.underlying22 g1
      obtain rfl:c1 = .int .u64 z1:=by simpa using e1
      obtain ⟨am,nm,cm,rfl,hm⟩:=aDI g2
      obtain ⟨ad,nd,cd,rfl,hd⟩:=vQ g3
      have r0:=lD w0
      exact ⟨z0.toNat,z1,am,nm,cm,ad,nd,cd,by rw [Int.toNat_of_nonneg r0.1],by rw [Int.toNat_of_nonneg r0.1];exact r0.2,lD w1,hm,hd⟩
set_option maxRecDepth 100000 in
theorem aBl {n:Nat} {cs:List Value} {y:DataW H × List MemPlace} (h:DataW.trod enc Tryz.prog W 0 (fun _=>true) true n 97 cs = some y):∃ a b:Int,cs = [.int .u64 a,.int .i64 b] /\ 0 <= a /\ a < 18446744073709551616:=by
  obtain ⟨xs,k,_,_,hl,hxl,hg⟩:=DataW.trod_struct Tryz.underlying97 h
  rw [rY] at hl
  match cs,hl with
  | [c0,c1],_ =>
    match xs,hxl with
    | [y0,y1],_ =>
      have g0:=hg 0 _ rfl
      have g1:=hg 1 _ rfl
      simp only [List.getElem_toArray,List.getElem_cons_zero,List.getElem_cons_succ] at g0 g1
      rw [rZ] at g0
      rw [rX] at g1
      simp only [List.drop_zero,List.drop_succ_cons,List.take_succ_cons,List.take_zero,List.getElem?_cons_zero,List.getElem?_cons_succ] at g0 g1
      obtain ⟨z0,e0,_,w0⟩:=DataW.trod_int Tryz.underlying22 g0
      obtain rfl:c0 = .int .u64 z0:=by simpa using e0
      obtain ⟨z1,e1,_,w1⟩:=DataW.trod_int Tryz.underlying3 g1
      obtain rfl:c1 = .int .i64 z1:=by simpa using e1
      exact ⟨z0,z1,rfl,lD w0⟩
set_option maxRecDepth 100000 in
theorem aHz {n:Nat} {cs:List Value} {y:DataW H × List MemPlace} (h:DataW.trod enc Tryz.prog W 0 (fun _=>true) true n 99 cs = some y):∃ r:TOp,cs = aGh r /\ wY W r:=by
  obtain ⟨xs,k,_,_,hl,hxl,hg⟩:=DataW.trod_struct Tryz.underlying99 h
  rw [aBR] at hl
  match cs,hl with
  | [c0,c1,c2,c3,c4,c5,c6,c7,c8,c9,c10],_ =>
    match xs,hxl with
    | [y0,y1,y2,y3,y4,y5,y6],_ =>
      have g0:=hg 0 _ rfl
      have g1:=hg 1 _ rfl
      have g2:=hg 2 _ rfl
      have g3:=hg 3 _ rfl
      have g4:=hg 4 _ rfl
      have g5:=hg 5 _ rfl
      have g6:=hg 6 _ rfl
      simp only [List.getElem_toArray,List.getElem_cons_zero,List.getElem_cons_succ] at g0 g1 g2 g3 g4 g5 g6
      rw [rX] at g0 g1
      rw [rZ] at g2
      rw [aAU] at g3
      rw [rY] at g4
      rw [vD] at g5
      rw [aBS] at g6
      simp only [List.drop_zero,List.drop_succ_cons,List.take_succ_cons,List.take_zero,List.getElem?_cons_zero,List.getElem?_cons_succ] at g0 g1 g2 g3 g4 g5 g6
      obtain ⟨z0,e0,_,w0⟩:=DataW.trod_int Tryz.underlying3 g0
      obtain rfl:c0 = .int .i64 z0:=by simpa using e0
      obtain ⟨z1,e1,_,w1⟩:=DataW.trod_int Tryz.underlying3 g1
      obtain rfl:c1 = .int .i64 z1:=by simpa using e1
      obtain ⟨z2,e2,_,w2⟩:=DataW.trod_int Tryz.underlying22 g2
      obtain rfl:c2 = .int .u64 z2:=by simpa using e2
      obtain ⟨l,hl3⟩:=aDH g3
      obtain ⟨st,sv,e4,hs1,hs2⟩:=aBl g4
      simp only [List.cons.injEq,and_true] at e4
      obtain ⟨rfl,rfl⟩:=e4
      obtain ⟨i,t,am,nm,cm,ad,nd,cd,e5,hi,ht,hm,hd⟩:=aCp g5
      simp only [List.cons.injEq,and_true] at e5
      obtain ⟨rfl,rfl,rfl,rfl⟩:=e5
      obtain ⟨ts,h6⟩:=aDJ g6
      have r2:=lD w2
      refine ⟨⟨z0,z1,z2.toNat,c3,l,st,sv,i,t,am,nm,cm,ad,nd,cd,c10,ts⟩,?_,⟨(tZ w1).2,?_,hl3,⟨hs1,hs2⟩,hi,ht,hm,hd,h6⟩⟩
      . unfold aGh
        simp only
        rw [Int.toNat_of_nonneg r2.1]
      . simp only
        rw [Int.toNat_of_nonneg r2.1]
        exact r2.2
set_option maxRecDepth 100000 in
theorem aFU {fuel:Nat} {v:Value} {x:DataW H × List MemPlace} (hf:DataW.trod enc Tryz.prog W 0 (fun _=>true) true fuel 101 [v] = some x):∃ rs,oY W v rs:=by
  obtain ⟨rs,h1,h2⟩:=uK (val:=aGh) (Ok:=wY W) Tryz.underlying101 aBR (by decide) (fun n cs y h=>aHz h) hf
  exact ⟨rs,h1,h2⟩
end
theorem wY.below {w w':World} {r:TOp} (h:wY w r) (hb:Below w.heap.size w w'):wY w' r :=
  ⟨h.n,h.a,h.l.below hb,h.st,h.i,h.t,fun e=>let ⟨l,h1,h2⟩:=h.m e;⟨l,h1,h2.below hb⟩,fun e=>let ⟨l,h1,h2⟩:=h.d e;⟨l,h1,h2.below hb⟩,h.ts.below hb⟩
theorem oY.below {w w':World} {v:Value} {rs:List TOp} (h:oY w v rs) (hb:Below w.heap.size w w'):oY w' v rs:=⟨h.1.below hb,fun r hr=>(h.2.1 r hr).below hb,h.2.2⟩
structure aBI (w:World) (b o:Nat) (r:TOp):Prop where
  c0:w.cell? ⟨b,o,none⟩ = some (.int .i64 r.k)
  c1:w.cell? ⟨b,o + 1,none⟩ = some (.int .i64 r.n)
  c2:w.cell? ⟨b,o + 2,none⟩ = some (.int .u64 r.a)
  c3:w.cell? ⟨b,o + 3,none⟩ = some r.lv
  c4:w.cell? ⟨b,o + 4,none⟩ = some (.int .u64 r.st)
  c5:w.cell? ⟨b,o + 5,none⟩ = some (.int .i64 r.sv)
  c6:w.cell? ⟨b,o + 6,none⟩ = some (.int .u64 r.i)
  c7:w.cell? ⟨b,o + 7,none⟩ = some (.int .u64 r.t)
  c8:w.cell? ⟨b,o + 8,none⟩ = some (.slice r.am r.nm r.cm)
  c9:w.cell? ⟨b,o + 9,none⟩ = some (.slice r.ad r.nd r.cd)
  c10:w.cell? ⟨b,o + 10,none⟩ = some r.tv
theorem aBI.kept {w w':World} {b o:Nat} {r:TOp} {S:Nat -> Prop} (h:aBI w b o r) (hk:Kept w w' S) (hs:¬ S b):aBI w' b o r :=
  ⟨hk.cell h.c0 hs,hk.cell h.c1 hs,hk.cell h.c2 hs,hk.cell h.c3 hs,hk.cell h.c4 hs,hk.cell h.c5 hs,hk.cell h.c6 hs,hk.cell h.c7 hs,hk.cell h.c8 hs,hk.cell h.c9 hs,hk.cell h.c10 hs⟩
theorem aBI.box (w:World) (r:TOp):aBI (w.alloc (.cells (aGh r).toArray 99)) w.heap.size 0 r:=by
  unfold aGh
  exact ⟨by go_cell,by go_cell,by go_cell,by go_cell,by go_cell,by go_cell,by go_cell,by go_cell,by go_cell,by go_cell,by go_cell⟩
theorem oY.at {w:World} {a:Option Addr} {n c:Nat} {rs:List TOp} (h:oY w (.slice a n c) rs) {j:Nat} {r:TOp} (hj:rs[j]? = some r):∃ b o,a = some ⟨b,o,none⟩ /\ b < w.heap.size /\ aBI w b (o + j * 11) r:=by
  obtain ⟨hl,he⟩:=List.getElem?_eq_some_iff.1 hj
  obtain ⟨b,o,h1,h2,h3⟩:=h.1.at (j:=j) (by rw [List.length_map];exact hl)
  rw [List.getElem_map,he] at h3
  exact ⟨b,o,h1,h2,by have:=h3 0 _ rfl;rwa [Nat.add_zero] at this,h3 1 _ rfl,h3 2 _ rfl,h3 3 _ rfl,h3 4 _ rfl,h3 5 _ rfl,h3 6 _ rfl,h3 7 _ rfl,h3 8 _ rfl,h3 9 _ rfl,h3 10 _ rfl⟩

def iE (r:TOp):Bool:=decide ((r.l.length <= 12 /\ r.ts.length <= 40) /\ (r.nm <= 30 /\ r.nd <= 33000)) && r.l.all (fun e=>decide (e.dn <= 5000))
def gA (rs:List TOp):Bool:=rs.all iE && decide (rs.length <= 60)
theorem aGe {rs:List TOp} {r:TOp} (hm:r ∈ rs) (h:¬ ((r.l.length <= 12 /\ r.ts.length <= 40) /\ (r.nm <= 30 /\ r.nd <= 33000))):gA rs = false:=by
  unfold gA
  have:rs.all iE = false:=by
    rw [List.all_eq_false]
    refine ⟨r,hm,?_⟩
    unfold iE
    simp [h]
  rw [this]
  rfl
theorem aDX {rs:List TOp} {r:TOp} {e:wG} (hm:r ∈ rs) (he:e ∈ r.l) (h:¬ e.dn <= 5000):gA rs = false:=by
  unfold gA
  have:rs.all iE = false:=by
    rw [List.all_eq_false]
    refine ⟨r,hm,?_⟩
    unfold iE
    have:r.l.all (fun e=>decide (e.dn <= 5000)) = false:=by
      rw [List.all_eq_false]
      exact ⟨e,he,by simpa using h⟩
    rw [this]
    simp
  rw [this]
  rfl
theorem aCI {r:TOp} (h:(r.l.length <= 12 /\ r.ts.length <= 40) /\ (r.nm <= 30 /\ r.nd <= 33000)) (he:∀ e ∈ r.l,e.dn <= 5000):iE r = true:=by
  unfold iE
  have:r.l.all (fun e=>decide (e.dn <= 5000)) = true:=by
    rw [List.all_eq_true]
    intro e hm
    simpa using he e hm
  rw [this]
  simp [h]
open Go.Maps Go.Shelf in
set_option maxRecDepth 20000 in
theorem yY (v:Value) (rs:List TOp) (w:World) (h:oY w v rs):Calls Tryz.prog 40 #[v] w fun e w'=>e = .returned (.bool (gA rs)) /\ Below w.heap.size w w':=by
  obtain ⟨la,lc,rfl,_⟩:=h.1.shape
  rw [List.length_map] at h ⊢
  obtain ⟨n,hn⟩:∃ n,rs.length = n:=⟨_,rfl⟩
  have HN:=hid hn
  have HL:=hid h
  have hmx:=h.2.2
  rw [hn] at HL hmx ⊢
  unfold maxLen at hmx
  clear h hn
  go_enter Tryz.func40,Tryz.ntmps40
  go_wp2_with fail
  go_loopw [9] (fun i wr=>∃ j:Nat,i = .int .i64 j /\ j <= n /\ (∀ r ∈ rs.take j,iE r = true) /\ Below w.heap.size w wr) (fun i _=>n - (intOf i).toNat)
  case atStart=>exact ⟨0,rfl,by omega,by simp,Below.refl _ _⟩
  case round =>
    obtain ⟨j,rfl,hj,hall,hb⟩:=hrel
    have BR:=hid hb
    have HA:=hid hall
    clear hb hall
    by_cases hlt:j < n
    . obtain ⟨r,hr,hm⟩:=aDp (l:=rs) (j:=j) (by rw [HN.out];exact hlt)
      obtain ⟨b,o,rfl,hbl,hc⟩:=(HL.out.below BR.out).at hr
      obtain ⟨ta,tc,htv,_⟩:=((HL.out.2.1 r hm).ts).1.shape
      have HE:=hid (((HL.out.2.1 r hm).below BR.out).l)
      obtain ⟨ea,ec,hev,_⟩:=HE.out.1.shape
      rw [List.length_map] at htv hev
      have hmx2:=HE.out.2.2
      unfold maxLen at hmx2
      have HR:=hid hr
      have HM:=hid hm
      obtain ⟨rk,rn,ra,rlv,rl,rst,rsv,ri,rt,am,nm,cm,ad,nd,cd,rtv,rts⟩:=r
      simp only at htv hev HE hmx2 hc
      subst htv hev
      obtain ⟨m,hm'⟩:∃ m,rts.length = m:=⟨_,rfl⟩
      obtain ⟨q,hq⟩:∃ q,rl.length = q:=⟨_,rfl⟩
      have HT:=hid hm'
      have HQ:=hid hq
      rw [hm'] at hc HR HM
      rw [hq] at HE hmx2 hc HR HM
      obtain ⟨x0,x1,x2,x3,x4,x5,x6,x7,x8,x9,x10⟩:=hc
      simp only at x0 x1 x2 x3 x4 x5 x6 x7 x8 x9 x10
      clear hr hm hm' hq
      have HNO:Hid (¬ ((q <= 12 /\ m <= 40) /\ (nm <= 30 /\ nd <= 33000)) -> gA rs = false):=hid (fun hno=>aGe HM.out (by simp only;rw [HQ.out,HT.out];exact hno))
      by_cases h12:q <= 12
      . have b0:¬ (12:Int) < (q:Int):=by omega
        by_cases h40:m <= 40
        . have b1:¬ (40:Int) < (m:Int):=by omega
          go_wp2_with fail
          generalize hwx:World.alloc wr _ = wx
          have BX:Hid (Below w.heap.size w wx):=hid (by subst hwx;exact BR.out.alloc BR.out.size _)
          have LX:Hid (Below wr.heap.size wr wx):=hid (by subst hwx;exact (Below.refl _ _).alloc (Nat.le_refl _) _)
          have EX:=hid (HE.out.below LX.out)
          have y3:wx.cell? ⟨wr.heap.size,3,none⟩ = some (.slice ea q ec):=by subst hwx;go_cell
          have hsz:wr.heap.size < wx.heap.size:=World.block_lt_of_cell? _ _ y3
          clear hwx x0 x1 x2 x3 x4 x5 x6 x7 x8 x9 x10
          by_cases hli:nm <= 30 /\ nd <= 33000
          . refine (aDx ri rt am ad nm cm nd cd _ hli.1 hli.2).mono ?_
            rintro e w2 ⟨rfl,hb2⟩
            have BX2:=hid (BX.out.trans (hb2.mono BX.out.size))
            have EX2:=hid (EX.out.below hb2)
            have y3':=Below.at hb2 y3 hsz
            have hsz2:wr.heap.size < w2.heap.size:=World.block_lt_of_cell? _ _ y3'
            clear hb2 y3 hsz BX EX LX
            go_wp2_with fail
            go_loopw [32] (fun i wz=>∃ k:Nat,i = .int .i64 k /\ k <= q /\ (∀ e ∈ rl.take k,e.dn <= 5000) /\ Below w2.heap.size w2 wz) (fun i _=>q - (intOf i).toNat)
            case atStart=>exact ⟨0,rfl,by omega,by simp,Below.refl _ _⟩
            case round =>
              obtain ⟨k,rfl,hk,hall2,hb2⟩:=hrel
              have BZ:=hid hb2
              have HA2:=hid hall2
              clear hb2 hall2
              by_cases hlt2:k < q
              . obtain ⟨e,he,hme⟩:=aDp (l:=rl) (j:=k) (by rw [HQ.out];exact hlt2)
                obtain ⟨b2,o2,rfl,hbl2,z0,z1,z2⟩:=(EX2.out.below BZ.out).at he
                have HEE:=hid he
                have HME:=hid hme
                clear he hme
                by_cases h5:e.dn <= 5000
                . have b5:¬ (5000:Int) < (e.dn:Int):=by omega
                  go_wp2_with fail
                  go_roundw
                  case rel =>
                    refine ⟨k + 1,by first | rfl | go_num,by omega,fun p hp=>?_,BZ.out.alloc BZ.out.size _⟩
                    rw [List.take_add_one,HEE.out] at hp
                    rcases List.mem_append.1 hp with hp | hp
                    . exact HA2.out p hp
                    . obtain rfl:=List.mem_singleton.1 hp
                      exact h5
                  all_goals (show q - ((k:Int) + 1).toNat < q - ((k:Int)).toNat;omega)
                . have b5:(5000:Int) < (e.dn:Int):=by omega
                  have HV:Hid (gA rs = false):=hid (aDX HM.out HME.out h5)
                  go_wp2_with fail
                  go_ret
                  exact ⟨by rw [HV.out];rfl,BX2.out.trans ((BZ.out.alloc BZ.out.size _).mono BX2.out.size)⟩
              . obtain rfl:k = q:=by omega
                have H1:Hid (iE ⟨rk,rn,ra,.slice ea k ec,rl,rst,rsv,ri,rt,am,nm,cm,ad,nd,cd,.slice ta m tc,rts⟩ = true):=hid (aCI (by simp only;rw [HQ.out,HT.out];exact ⟨⟨h12,h40⟩,hli⟩) (fun e he=>HA2.out e (by rw [List.take_of_length_le (by rw [HQ.out];exact Nat.le_refl _)];exact he)))
                go_wp2_with fail
                go_roundw
                case rel =>
                  refine ⟨j + 1,by first | rfl | go_num,by omega,fun p hp=>?_,BX2.out.trans (BZ.out.mono BX2.out.size)⟩
                  rw [List.take_add_one,HR.out] at hp
                  rcases List.mem_append.1 hp with hp | hp
                  . exact HA.out p hp
                  . obtain rfl:=List.mem_singleton.1 hp
                    exact H1.out
                all_goals (show n - ((j:Int) + 1).toNat < n - ((j:Int)).toNat;omega)
          . have HV:Hid (gA rs = false):=hid (HNO.out (fun q=>hli q.2))
            refine (aFI ri rt am ad nm cm nd cd _ hli).mono ?_
            rintro e w2 ⟨rfl,hb2⟩
            have BX2:=hid (BX.out.trans (hb2.mono BX.out.size))
            clear hb2
            go_wp2_with fail
            go_ret
            exact ⟨by rw [HV.out];rfl,BX2.out⟩
        . have b1:(40:Int) < (m:Int):=by omega
          have HV:Hid (gA rs = false):=hid (HNO.out (fun q=>h40 q.1.2))
          go_wp2_with fail
          go_ret
          exact ⟨by rw [HV.out];rfl,BR.out.alloc BR.out.size _⟩
      . have b0:(12:Int) < (q:Int):=by omega
        have HV:Hid (gA rs = false):=hid (HNO.out (fun q=>h12 q.1.1))
        go_wp2_with fail
        go_ret
        exact ⟨by rw [HV.out];rfl,BR.out.alloc BR.out.size _⟩
    . obtain rfl:j = n:=by omega
      have hal:rs.all iE = true:=by
        rw [List.all_eq_true]
        intro r hr
        exact HA.out r (by rw [List.take_of_length_le (by rw [HN.out];exact Nat.le_refl _)];exact hr)
      by_cases h1:j <= 60
      . have b1:(j:Int) <= 60:=by omega
        have HV:Hid (gA rs = true):=hid (by unfold gA;rw [hal,HN.out];simpa using h1)
        clear hal
        go_wp2_with fail
        go_ret
        exact ⟨by rw [HV.out];rfl,BR.out⟩
      . have b1:¬ (j:Int) <= 60:=by omega
        have HV:Hid (gA rs = false):=hid (by unfold gA;rw [hal,HN.out];simpa using h1)
        clear hal
        go_wp2_with fail
        go_ret
        exact ⟨by rw [HV.out];rfl,BR.out⟩
end Go.Proofs.YtjdglpcnkiioeaaGreat
namespace Go.Proofs.YtjdglpcnkiioeaaGreat
open Go.Lib (hid)
open Go.RowKit Go.Maps Go.Proofs.Own Go.Shelf

def aIj (room:Int):aA:=⟨room,[],false,-1,0⟩
theorem aFf {room:Int} (h0:0 <= room) (h1:room <= 1048576):aS (aIj room):=⟨⟨by show 0 <= room;exact h0,by show room <= 1048576;exact h1,by show (-1:Int) <= -1;decide,by show (-1:Int) <= 9223372036854775807;decide,by show (0:Int) <= 0;decide,by show (0:Int) <= 1000000000;decide,by show 0 <= 1000;decide,fun f h=>by cases h⟩,by show 0 <= 1048576;decide,by show 0 <= 128;decide⟩
theorem aIk {room:Int} (h0:0 <= room) (h1:room <= 1048576):VCr (aIj room) 0 (-1) 0 (-1) jF lX :=
  ⟨aFf h0 h1,List.Pairwise.nil,⟨[],Good.nil,.inl rfl⟩,.inl ⟨rfl,rfl⟩,⟨[],(uJ (D:=aIj room) (b:=0) ⟨rfl,rfl⟩ (by decide) rfl).2⟩,by decide⟩
theorem wB {db mb tb:Nat} {D:aA} {t v t' v':Int} {s:bI} {L:aK} {ts:List (Nat × Nat)} {w:World} (hd:aG w db mb tb (eW (cE D ts))) (h:VCr D t v t' v' s L) (hst:D.steps + 3000 <= 1000000000) :
    Calls Tryz.prog 41 #[.pointer (some ⟨db,0,none⟩)] w fun e w'=>∃ D' V',aGE D t v t' v' s L D' V' /\ wT db mb tb D' V' w e w':=by
  obtain ⟨D1,D3,L3,p,q,j,ho⟩:=aGu h (by omega) ts
  have hlo:=h.lo
  obtain ⟨hs0,hs59⟩:=ho.sf.range
  obtain ⟨P,hi⟩:=ho.cut.inv
  have hl:L3.last <= H59:=hi.hi
  have hsz:=(hi.lok ho.cut.eN).2
  have hfew:=hi.few ho.cut.eN
  have hn:(dJ D1).i = (s.i.toNat:Int):=by rw [ho.hs];omega
  have hst0:=ho.steps0
  have hst3:=ho.steps
  have he:∀ L',(⟨(eA (eW (cE D ts))).t,(eA (eW (cE D ts))).v,dJ D1,L',false⟩:cC) = ⟨p,q,s,L',false⟩:=fun L'=>by rw [ho.vt.1,ho.vt.2,ho.hs]
  cases hy:atW L3 s.i.toNat with
  | none =>
    have W:=zA hd ho.good0 (by rw [hst0];omega) ho.h1 ho.h2 hn ho.h3 hl (by omega) hy
    rw [he] at W
    exact W.mono fun e w' hw=>⟨_,_,ho.same hlo (fun y e=>by rw [hy] at e;cases e),hw⟩
  | some y =>
    by_cases hyt:y.t = s.t
    . have W:=aEa hd ho.good0 (by rw [hst0];omega) ho.h1 ho.h2 hn ho.h3 hl (by omega) hy (by rw [ho.hs];exact hyt)
      rw [he] at W
      exact W.mono fun e w' hw=>⟨_,_,ho.same hlo (fun z e=>by rw [hy] at e;rw [<- Option.some.inj e];exact hyt),hw⟩
    . obtain ⟨D4,r1,r2⟩:=ho.reset (by omega) hy hyt
      have W:=aD9 hd ho.good0 (by rw [hst0];omega) ho.h1 ho.h2 hn ho.h3 hl (by omega) hy (by rw [ho.hs];exact hyt) r1 ho.cut.eN (hi.lok ho.cut.eN).1 (by omega) (by omega)
      rw [he] at W
      exact W.mono fun e w' hw=>⟨_,_,r2,hw⟩
theorem aBu {w:World} {b:VB} {ev fv:Value} {el:bF} {D:aA} {V:cC} (h:aX w b ev fv el D V) (hv:hE D V) (hst:D.steps + 300 <= 1000000000) (n:Nat) (xt:Int) (xms:List Int) (xd:List Nat) (am ad:Option Addr) (nm cm nd cd:Nat) (hn9:(n:Int) < 18446744073709551616)
    (hxk:∀ w',Kept w w' (iT b ev fv) -> cU w' (.agg #[.int .u64 n,.int .u64 xt,.slice am nm cm,.slice ad nd cd]) ⟨(n:Int),xt,xms,xd⟩) :
    Calls Tryz.prog 81 #[.pointer (some ⟨b.vb,0,none⟩),.agg #[.int .u64 n,.int .u64 xt,.slice am nm cm,.slice ad nd cd]] w (gR b ev fv (gM D V ⟨(n:Int),xt,xms,xd⟩) w):=by
  obtain ⟨P,hi⟩:=hv.cut.inv
  have hl:V.L.last <= H59:=hi.hi
  have hsz:V.L.es.length <= 2147483648:=by have:=(hi.lok hv.cut.eN).2;omega
  by_cases he:(cJ D V.s ⟨(n:Int),xt,xms,xd⟩).2 = 0
  . obtain ⟨_,hok⟩:=aCx hv.cut.up hv.sf (⟨(n:Int),xt,xms,xd⟩:bI)
    have h1:1 <= (n:Int):=(hok he).2.1
    have ha:=tP D V.s (⟨(n:Int),xt,xms,xd⟩:bI)
    have hc:jG (cJ D V.s ⟨(n:Int),xt,xms,xd⟩).1 V.L:=hv.cut.on (ha.dK uF) ((yW hv.cut.up V.s _).ok (by omega)) (ha.rising hv.cut.ris) (oD V.s _ hv.cut.eN (by omega)).1
    exact zB h hv.cut.eN hst hl hsz n xt xms xd am ad nm cm nd cd hn9 hxk hv.br he hc h1
  . exact aEb h hv.cut.eN hst hl hsz n xt xms xd am ad nm cm nd cd hn9 hxk hv.br rfl he
def opV (k:Int) (a:Nat) (ms:List bV) (t v:Int) (x:bI) (D:aA) (V:cC):aA × cC × Nat :=
  if k = 1 then sD D V a else if k = 2 then oN D V t v else if k = 3 then gM D V x else dV D V ms
theorem aJw {D:aA} {V:cC} (h:hE D V) (hs:D.steps + 300 <= 1000000000) (k:Int) (a:Nat) (ms:List bV) {t:Int} (ht:0 <= t) (v:Int) (x:bI):((opV k a ms t v x D V).1.down = false -> hE (opV k a ms t v x D V).1 (opV k a ms t v x D V).2.1) /\ (opV k a ms t v x D V).1.steps <= D.steps + 300:=by
  unfold opV
  split
  . exact ⟨(xG h hs a).1,(xG h hs a).2.2⟩
  . split
    . exact ⟨(uA h hs t v ht).1,(uA h hs t v ht).2.2⟩
    . split
      . exact ⟨(uN h hs x).1,(uN h hs x).2.2⟩
      . exact ⟨(oZ h hs ms).1,(oZ h hs ms).2.2⟩
theorem aJv {D:aA} {V:cC} (h:hE D V) (hs:D.steps + 300 <= 1000000000) (k:Int) (a:Nat) (ms:List bV) {t:Int} (ht:0 <= t) (v:Int) (x:bI) (hd:(opV k a ms t v x D V).1.down = true):∃ t' v' s L,VCr (opV k a ms t v x D V).1 V.t V.v t' v' s L:=by
  unfold opV at hd ⊢
  split at hd
  . rename_i e
    rw [if_pos e]
    obtain ⟨L,h1,_⟩:=(xG h hs a).2.1 hd
    exact ⟨_,_,_,L,h1⟩
  . rename_i e
    rw [if_neg e]
    split at hd
    . rename_i e2
      rw [if_pos e2]
      exact ⟨_,_,_,_,(uA h hs t v ht).2.1 hd⟩
    . rename_i e2
      rw [if_neg e2]
      split at hd
      . rename_i e3
        rw [if_pos e3]
        rcases (uN h hs x).2.1 hd with h1 | ⟨_,_,L,h1,_⟩
        . exact ⟨_,_,_,_,h1⟩
        . exact ⟨_,_,_,L,h1⟩
      . rename_i e3
        rw [if_neg e3]
        obtain ⟨L,h1,_⟩:=(oZ h hs ms).2.1 hd
        exact ⟨_,_,_,L,h1⟩
set_option maxRecDepth 20000 in
theorem aJ6 {w:World} {b:VB} {ev fv:Value} {el ml:bF} {D:aA} {V:cC} (h:aX w b ev fv el D V) (hv:hE D V) (hst:D.steps + 300 <= 1000000000) (k n:Int) (a:Nat) (ea:Option Addr) (en ec:Nat) (st sv:Int) (i:Nat) (t:Int) (am ad:Option Addr) (nm cm nd cd:Nat) (tv:Value) (xms:List Int) (xd:List Nat)
    (ha:(a:Int) < 18446744073709551616) (hst0:0 <= st) (hi9:(i:Int) < 18446744073709551616) (hm:qO w (jH b.lb b.db b.mb b.tb ev fv) (.slice ea en ec) ml) (hf:Few ml)
    (hxk:∀ w',Kept w w' (iT b ev fv) -> cU w' (.agg #[.int .u64 i,.int .u64 t,.slice am nm cm,.slice ad nd cd]) ⟨(i:Int),t,xms,xd⟩) :
    Calls Tryz.prog 44 #[.pointer (some ⟨b.vb,0,none⟩),.agg #[.int .i64 k,.int .i64 n,.int .u64 a,.slice ea en ec,.int .u64 st,.int .i64 sv,.int .u64 i,.int .u64 t,.slice am nm cm,.slice ad nd cd,tv]] w (gR b ev fv (opV k a (ml.map (·.1)) st sv ⟨(i:Int),t,xms,xd⟩ D V) w):=by
  obtain ⟨W1,hW1⟩:∃ W1:World,W1 = w.alloc (.cells #[.int .i64 k,.int .i64 n,.int .u64 a,.slice ea en ec,.int .u64 st,.int .i64 sv,.int .u64 i,.int .u64 t,.slice am nm cm,.slice ad nd cd,tv] 99):=⟨_,rfl⟩
  have B:Hid (Below w.heap.size w W1):=hid (by subst hW1;exact (Below.refl _ _).alloc (Nat.le_refl _) _)
  have KB:Kept w W1 (iT b ev fv):=Kept.aN B.out fun k h1 h2=>by omega
  have KL:Kept w W1 (jH b.lb b.db b.mb b.tb ev fv):=Kept.aN B.out fun k h1 h2=>by omega
  have H1:=hid (h.below B.out)
  have M1:=hid (hm.kept KL)
  have HXK:Hid (∀ w',Kept W1 w' (iT b ev fv) -> cU w' (.agg #[.int .u64 i,.int .u64 t,.slice am nm cm,.slice ad nd cd]) ⟨(i:Int),t,xms,xd⟩):=hid fun w' hk=>hxk w' (KB.trans hk)
  have HV:=hid hv
  have HST:=hid hst
  have HF:=hid hf
  have HA:=hid ha
  have HS0:=hid hst0
  have HI9:=hid hi9
  have x0:W1.cell? ⟨w.heap.size,0,none⟩ = some (.int .i64 k):=by subst hW1;go_cell
  have x2:W1.cell? ⟨w.heap.size,2,none⟩ = some (.int .u64 a):=by subst hW1;go_cell
  have x3:W1.cell? ⟨w.heap.size,3,none⟩ = some (.slice ea en ec):=by subst hW1;go_cell
  have x4:W1.cell? ⟨w.heap.size,4,none⟩ = some (.int .u64 st):=by subst hW1;go_cell
  have x5:W1.cell? ⟨w.heap.size,5,none⟩ = some (.int .i64 sv):=by subst hW1;go_cell
  have x6:W1.cell? ⟨w.heap.size,6,none⟩ = some (.int .u64 i):=by subst hW1;go_cell
  have x7:W1.cell? ⟨w.heap.size,7,none⟩ = some (.int .u64 t):=by subst hW1;go_cell
  have x8:W1.cell? ⟨w.heap.size,8,none⟩ = some (.slice am nm cm):=by subst hW1;go_cell
  have x9:W1.cell? ⟨w.heap.size,9,none⟩ = some (.slice ad nd cd):=by subst hW1;go_cell
  clear h hv hst hm hf ha hst0 hi9 hxk KB KL
  by_cases h1:k = 1
  . have b1:(k == 1) = true:=beq_iff_eq.2 h1
    have HR:Hid (opV k a (ml.map (·.1)) st sv ⟨(i:Int),t,xms,xd⟩ D V = sD D V a):=hid (by unfold opV;rw [if_pos h1])
    clear h1
    go_enter Tryz.func44,Tryz.ntmps44
    go_wp2_with fail
    rw [<- hW1]
    go_wp2_with fail
    refine (aIS H1.out HV.out.cut (by have:=HST.out;omega) a HA.out HV.out.br).mono ?_
    intro E W2 hp
    have HP:=hid (hp.back B.out)
    obtain ⟨rfl,_⟩:=hp
    go_wp2_with fail
    go_ret
    rw [HR.out]
    exact HP.out
  . have b1:(k == 1) = false:=beq_eq_false_iff_ne.2 h1
    by_cases h2:k = 2
    . have b2:(k == 2) = true:=beq_iff_eq.2 h2
      have HR:Hid (opV k a (ml.map (·.1)) st sv ⟨(i:Int),t,xms,xd⟩ D V = oN D V st sv):=hid (by unfold opV;rw [if_neg h1,if_pos h2])
      clear h1 h2
      go_enter Tryz.func44,Tryz.ntmps44
      go_wp2_with fail
      rw [<- hW1]
      go_wp2_with fail
      refine (aH1 H1.out HV.out.cut.eN (by have:=HST.out;omega) st sv HS0.out HV.out.br).mono ?_
      intro E W2 hp
      have HP:=hid (hp.back B.out)
      obtain ⟨rfl,_⟩:=hp
      go_wp2_with fail
      go_ret
      rw [HR.out]
      exact HP.out
    . have b2:(k == 2) = false:=beq_eq_false_iff_ne.2 h2
      by_cases h3:k = 3
      . have b3:(k == 3) = true:=beq_iff_eq.2 h3
        have HR:Hid (opV k a (ml.map (·.1)) st sv ⟨(i:Int),t,xms,xd⟩ D V = gM D V ⟨(i:Int),t,xms,xd⟩):=hid (by unfold opV;rw [if_neg h1,if_neg h2,if_pos h3])
        clear h1 h2 h3
        go_enter Tryz.func44,Tryz.ntmps44
        go_wp2_with fail
        rw [<- hW1]
        go_wp2_with fail
        refine (aBu H1.out HV.out HST.out i t xms xd am ad nm cm nd cd HI9.out HXK.out).mono ?_
        intro E W2 hp
        have HP:=hid (hp.back B.out)
        obtain ⟨rfl,_⟩:=hp
        go_wp2_with fail
        go_ret
        rw [HR.out]
        exact HP.out
      . have b3:(k == 3) = false:=beq_eq_false_iff_ne.2 h3
        have HR:Hid (opV k a (ml.map (·.1)) st sv ⟨(i:Int),t,xms,xd⟩ D V = dV D V (ml.map (·.1))):=hid (by unfold opV;rw [if_neg h1,if_neg h2,if_neg h3])
        clear h1 h2 h3
        go_enter Tryz.func44,Tryz.ntmps44
        go_wp2_with fail
        rw [<- hW1]
        go_wp2_with fail
        refine (yZ H1.out HV.out.cut (by have:=HST.out;omega) M1.out HF.out HV.out.br).mono ?_
        intro E W2 hp
        have HP:=hid (hp.back B.out)
        obtain ⟨rfl,_⟩:=hp
        go_wp2_with fail
        go_ret
        rw [HR.out]
        exact HP.out
end Go.Proofs.YtjdglpcnkiioeaaGreat
