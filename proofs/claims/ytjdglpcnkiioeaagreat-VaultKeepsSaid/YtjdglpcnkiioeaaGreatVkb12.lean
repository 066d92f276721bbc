/- Several texts in one: Disk3 for vltkeeps_law_holds. No conditions but those stated. -/
import Derived.Test.YtjdglpcnkiioeaaGreatVkb10
import Derived.Test.YtjdglpcnkiioeaaGreatVkb2
import Derived.Test.YtjdglpcnkiioeaaGreatVkb11
set_option maxHeartbeats 16000000
namespace Go.Proofs.YtjdglpcnkiioeaaGreat
open Go.Lib (hid)
open Go.RowKit Go.Maps Go.Proofs.Own

theorem dL.nL {w:World} {db mb tb:Nat} {v:Value} {f:aO} (h:dL w db mb tb v f) {p:Addr} (y:Value) (hne:∀ x,w.cell? p ≠ some (.int .u8 x)):dL (w.setCell p y) db mb tb v f:=by
 obtain ⟨a,c,h1,h2,h3⟩:=h
 exact ⟨a,c,h1,⟨h2.shape,Reads.nL h2.rd y hne,h2.lt,h2.small⟩,h3⟩
theorem aG.setOther {w:World} {db mb tb:Nat} {D:aA} (h:aG w db mb tb D) {p:Addr} (y:Value) (hp:¬ bB db mb tb p.block) (hne:∀ x,w.cell? p ≠ some (.int .u8 x)):aG (w.setCell p y) db mb tb D :=
 h.kept (Kept.setCell w p y) (fun k hk e=>hp (by rw [<- e];exact hk)) fun _ _ _ hf=>hf.nL y hne
theorem aG.mapped {w w':World} {db mb tb:Nat} {D:aA} {vals:ByteArray -> Value} {L:List aO} (h:aG w db mb tb D) (hm:gM w' mb vals L) (ht:w.mapTurned w' mb) (hfs:∀ f ∈ L,dL w' db mb tb (vals f.name) f) :
  aG w' db mb tb { D with files:=L }:=by
 have hk:=Kept.qS ht
 have hl:=h.lt
 have n0:¬ db = mb:=h.ne.1
 exact ⟨hk.cell h.c0 n0,hk.cell h.c1 n0,hk.cell h.c2 n0,hk.cell h.c3 n0,hk.cell h.c4 n0,(hk.frozen (a:=⟨db,1,none⟩) hl n0).trans h.f1,(hk.frozen (a:=⟨db,2,none⟩) hl n0).trans h.f2,(hk.frozen (a:=⟨db,3,none⟩) hl n0).trans h.f3,
  h.mt.kept hk (fun e=>h.ne.2.2 e.symm),⟨vals,hm,hfs⟩,h.ne⟩
theorem Kept.gF {w w':World} {db mb tb:Nat} (h:w.mapTurned w' mb):Kept w w' (bB db mb tb):=(Kept.qS h).mono fun _ _ e=>.inr (.inl e)
theorem aG.put {w w':World} {db mb tb n:Nat} {D:aA} {vals:ByteArray -> Value} {f:aO} {v:Value} (h:aG w db mb tb D) (hfs:∀ g ∈ D.files,dL w db mb tb (vals g.name) g)
  (hown:w'.ownsMap Tryz.prog 9 gJ mb n ((dat vals D.files).put (iN f.name) (.held v))) (ht:w.mapTurned w' mb) (hv:dL w db mb tb v f):aG w' db mb tb { D with files:=bL f D.files }:=by
 rw [aI4] at hown
 have hk3:Kept w w' (bB db mb tb):=Kept.gF ht
 refine h.mapped (pV hown) ht fun g hg=>?_
 rcases qR.1 hg with rfl | ⟨h1,h2⟩
 ·rw [aDj];exact hv.kept hk3
 ·rw [aBb vals v h2];exact (hfs g h1).kept hk3
theorem aG.del {w w':World} {db mb tb n:Nat} {D:aA} {vals:ByteArray -> Value} {m:ByteArray} (h:aG w db mb tb D) (hfs:∀ g ∈ D.files,dL w db mb tb (vals g.name) g)
  (hown:w'.ownsMap Tryz.prog 9 gJ mb n ((dat vals D.files).del (iN m))) (ht:w.mapTurned w' mb):aG w' db mb tb { D with files:=bH m D.files }:=by
 rw [aE3] at hown
 have hk3:Kept w w' (bB db mb tb):=Kept.gF ht
 exact h.mapped (pV hown) ht fun g hg=>(hfs g (mH.1 hg).1).kept hk3

def cV (db mb tb:Nat) (r:aA × Nat) (w:World):Ending -> World -> Prop:=fun E w'=>E = .returned (.int .i64 r.2) /\ aG w' db mb tb r.1 /\ Kept w w' (bB db mb tb)
def syncD (D:aA) (n:ByteArray):aA × Nat :=
 match aC n D.files with
 | some f=>if D.down = true then (D,50) else if D.armed = 0 then (bP D,50) else ({ bP D with files:=bL { f with kept:=f.all.length } D.files },0)
 | none=>(D,bG D n)
theorem Kept.bY {w w':World} {db mb tb:Nat} (h:Below w.heap.size w w'):Kept w w' (bB db mb tb):=Kept.aJ h fun k h1 h2=>by omega
theorem DWf.step {D:aA} (h:DWf D) (hs:D.steps + 1 <= 1000000000):DWf (bP D):=by
 have:=h.armed0
 have:=h.armed1
 refine ⟨by rw [zN];exact h.room0,by rw [zN];exact h.room1,?_,?_,by rw [eN];have:=h.steps0;omega,by rw [eN];exact hs,by rw [bC];exact h.many,by rw [bC];exact h.each⟩
 ·unfold bP;split <;> (try split) <;> simp only <;> omega
 ·unfold bP;split <;> (try split) <;> simp only <;> omega

theorem aAB (db mb tb:Nat) (D:aA) (n:ByteArray) (w:World) (h:aG w db mb tb D) (hn:n.size <= maxLen) (he:bG D n ≠ 0) :
  Calls Tryz.prog 34 #[.pointer (some ⟨db,0,none⟩),.string n] w (cV db mb tb (D,bG D n) w):=by
 have C:=hid (mZ db mb tb D n w h hn he)
 have H:=hid h
 obtain ⟨k,hk⟩:∃ k,bG D n = k:=⟨_,rfl⟩
 have hkb:((k:Int) != 0) = true:=bne_iff_ne.2 (by omega)
 rw [hk] at C ⊢
 clear h hn he hk
 go_enter Tryz.func34,Tryz.ntmps34
 go_wp2_with fail
 refine C.out.mono ?_
 rintro e w1 ⟨rfl,hb1⟩
 have B1:=hid hb1
 have L1:=hb1.size
 clear hb1
 go_wp2_with fail
 go_ret
 have BF:=B1.out.alloc L1 (.cells #[.slice none 0 0,.int .i64 0] 134)
 exact ⟨rfl,H.out.below BF,Kept.bY BF⟩

set_option maxRecDepth 20000 in
theorem aDR (db mb tb:Nat) (D:aA) (n:ByteArray) (f:aO) (w:World) (h:aG w db mb tb D) (hw:DWf D) (hd:D.down = false) (hn:n.size <= maxLen) (hf:aC n D.files = some f) (ha:D.armed = 0) :
  Calls Tryz.prog 34 #[.pointer (some ⟨db,0,none⟩),.string n] w (cV db mb tb (bP D,50) w):=by
 have HE:Hid (fO D = 50):=hid (if_pos ha)
 have C:=hid (fE db mb tb D n f w h hd hn hf)
 have H:=hid h
 have HW:=hid hw
 have HN:=hid (cT hn)
 have HFN:=hid (cF hf)
 have HM3:=hid h.lt3
 have hl:=h.lt
 have many:=hw.many
 clear h hw hd hn hf
 go_enter Tryz.func34,Tryz.ntmps34
 go_wp2_with fail
 refine C.out.mono ?_
 rintro e w1 ⟨v,rfl,hfi,hb1⟩
 have HFI:=hid hfi
 obtain ⟨a,c,rfl,_,_⟩:=hfi
 have B1:=hid hb1
 have L1:=hb1.size
 clear hb1
 go_wp2_with fail
 generalize hW:World.alloc w1 _ = w2
 have B2:Hid (Below w.heap.size w w2):=hid (by subst hW;exact B1.out.alloc L1 _)
 have B12:Hid (Below w1.heap.size w1 w2):=hid (by subst hW;exact (Below.refl _ _).alloc (Nat.le_refl _) _)
 have X2:Hid (w2.cell? ⟨w1.heap.size,0,none⟩ = some (.slice a f.all.length c) /\ w2.cell? ⟨w1.heap.size,1,none⟩ = some (.int .i64 f.kept) /\ w2.frozen? ⟨w1.heap.size,0,none⟩ = false /\ w2.frozen? ⟨w1.heap.size,1,none⟩ = false /\ w1.heap.size < w2.heap.size):=hid (by subst hW;exact ⟨by go_cell,by go_cell,by simp,by simp,by simp⟩)
 have D2:Hid (aG w2 db mb tb D):=hid (H.out.below B2.out)
 have NB:Hid (¬ bB db mb tb w1.heap.size):=hid fun e=>by have:=HM3.out _ e;omega
 clear hW
 refine (hU db mb tb D _ D2.out HW.out).mono ?_
 rintro e w3 ⟨rfl,hd3,k3⟩
 rw [HE.out]
 have D3:=hid hd3
 have K3:=hid k3
 clear hd3 k3
 go_wp2_with fail
 go_ret
 exact ⟨rfl,D3.out,(Kept.bY B2.out).trans K3.out⟩

set_option maxRecDepth 20000 in
theorem aHC (db mb tb:Nat) (D:aA) (n:ByteArray) (f:aO) (w:World) (h:aG w db mb tb D) (hw:DWf D) (hd:D.down = false) (hn:n.size <= maxLen) (hf:aC n D.files = some f) (ha:D.armed ≠ 0) :
  Calls Tryz.prog 34 #[.pointer (some ⟨db,0,none⟩),.string n] w (cV db mb tb ({ bP D with files:=bL { f with kept:=f.all.length } D.files },0) w):=by
 have HE:Hid (fO D = 0):=hid (if_neg ha)
 have C:=hid (fE db mb tb D n f w h hd hn hf)
 have H:=hid h
 have HW:=hid hw
 have HN:=hid (cT hn)
 have HFN:=hid (cF hf)
 have HM3:=hid h.lt3
 have hl:=h.lt
 have many:=hw.many
 clear h hw hd hn hf
 go_enter Tryz.func34,Tryz.ntmps34
 go_wp2_with fail
 refine C.out.mono ?_
 rintro e w1 ⟨v,rfl,hfi,hb1⟩
 have HFI:=hid hfi
 obtain ⟨a,c,rfl,_,_⟩:=hfi
 have B1:=hid hb1
 have L1:=hb1.size
 clear hb1
 go_wp2_with fail
 generalize hW:World.alloc w1 _ = w2
 have B2:Hid (Below w.heap.size w w2):=hid (by subst hW;exact B1.out.alloc L1 _)
 have B12:Hid (Below w1.heap.size w1 w2):=hid (by subst hW;exact (Below.refl _ _).alloc (Nat.le_refl _) _)
 have X2:Hid (w2.cell? ⟨w1.heap.size,0,none⟩ = some (.slice a f.all.length c) /\ w2.cell? ⟨w1.heap.size,1,none⟩ = some (.int .i64 f.kept) /\ w2.frozen? ⟨w1.heap.size,0,none⟩ = false /\ w2.frozen? ⟨w1.heap.size,1,none⟩ = false /\ w1.heap.size < w2.heap.size):=hid (by subst hW;exact ⟨by go_cell,by go_cell,by simp,by simp,by simp⟩)
 have D2:Hid (aG w2 db mb tb D):=hid (H.out.below B2.out)
 have NB:Hid (¬ bB db mb tb w1.heap.size):=hid fun e=>by have:=HM3.out _ e;omega
 clear hW
 refine (hU db mb tb D _ D2.out HW.out).mono ?_
 rintro e w3 ⟨rfl,hd3,k3⟩
 rw [HE.out]
 have D3:=hid hd3
 have K3:=hid k3
 clear hd3 k3
 have X3:Hid (w3.cell? ⟨w1.heap.size,0,none⟩ = some (.slice a f.all.length c) /\ w3.cell? ⟨w1.heap.size,1,none⟩ = some (.int .i64 f.kept) /\ w3.frozen? ⟨w1.heap.size,0,none⟩ = false /\ w3.frozen? ⟨w1.heap.size,1,none⟩ = false /\ w1.heap.size < w3.heap.size):=hid ⟨K3.out.cell X2.out.1 NB.out,K3.out.cell X2.out.2.1 NB.out,(K3.out.frozen (a:=⟨w1.heap.size,0,none⟩) X2.out.2.2.2.2 NB.out).trans X2.out.2.2.1,(K3.out.frozen (a:=⟨w1.heap.size,1,none⟩) X2.out.2.2.2.2 NB.out).trans X2.out.2.2.2.1,Nat.lt_of_lt_of_le X2.out.2.2.2.2 K3.out.size⟩
 obtain ⟨x0,x1,y0,y1,L3⟩:=X3.out
 have hfl:(f.all.length:Int) <= 2097152:=by obtain ⟨a',c',_,hB,_⟩:=HFI.out;have:=hB.small;omega
 go_wp2_with fail
 generalize hW4:World.setCell w3 _ _ = w4
 have K4:Hid (Kept w3 w4 (fun k=>k = w1.heap.size)):=hid (by subst hW4;exact Kept.setCell w3 ⟨w1.heap.size,1,none⟩ _)
 have D4:Hid (aG w4 db mb tb (bP D)):=hid (by subst hW4;exact D3.out.setOther _ NB.out (fun x e=>by rw [X3.out.2.1] at e;cases e))
 have XR:Hid (w4.cell? ⟨db,0,none⟩ = some (.map (some mb)) /\ w4.cell? ⟨w1.heap.size,0,none⟩ = some (.slice a f.all.length c) /\ w4.cell? ⟨w1.heap.size,1,none⟩ = some (.int .i64 f.all.length)):=hid (by
  refine ⟨D4.out.c0,?_,?_⟩
  ·subst hW4;rw [World.cell?_setCell_other _ _ _ _ (by simp)];exact X3.out.1
  ·subst hW4;exact World.cell?_setCell_same _ _ _ X3.out.2.1)
 have FI4:Hid (dL w4 db mb tb (.agg #[.slice a f.all.length c,.int .i64 f.all.length]) { f with kept:=f.all.length }):=hid (by
  have hh:=((HFI.out.below B12.out).kept K3.out)
  have hh2:dL w4 db mb tb (.agg #[.slice a f.all.length c,.int .i64 f.kept]) f:=by subst hW4;exact hh.nL _ (fun x e=>by rw [X3.out.2.1] at e;cases e)
  obtain ⟨a',c',e1,e2,e3⟩:=hh2
  cases e1
  exact ⟨a,c,rfl,e2,e3⟩)
 obtain ⟨vals,hmap,hfs⟩:=D4.out.fs
 rw [bC] at hmap hfs
 have MR:=hid hmap
 have FS:=hid hfs
 clear hW4 x0 x1 y0 y1 hmap hfs
 refine aN [0,1,3,7,0,0,63] 0 (fun w'=>w'.cell? ⟨db,0,none⟩ = some (.map (some mb)) /\ w'.cell? ⟨w1.heap.size,0,none⟩ = some (.slice a f.all.length c) /\ w'.cell? ⟨w1.heap.size,1,none⟩ = some (.int .i64 f.all.length)) (by kernel_rfl) ?_
 refine aB [0,1,2,3,4,5] (by kernel_rfl) (L:=bm 7 63) (by kernel_rfl) (f':=1) rfl (fun _ _ _ _ h=>h) (fun w o h=>(((aP.cell _ _).and ((aP.cell _ _).and (aP.cell _ _))).alloc h o)) (.inr XR.out) ?_
 simp only [sF,sL]
 iterate 6 (first | (refine aQ _ (by rfl) (fun w' hs=>by obtain ⟨y0,y1,y2⟩:=hs;go_simp;try with_reducible rfl) rfl ?_;simp only [Act.put,sA]) | (refine aD _ (by rfl) (fun w'=>by go_simp;try with_reducible rfl) ?_;simp only [Act.put,sA]))
 refine aE ?_
 refine aI 6 (by kernel_rfl) (L:=bm 7 127) (by kernel_rfl) ?_
 simp only [sL]
 refine wpList_mapUpdate_in _ rfl _ _ _ 47 rfl 9 134 law Tryz.underlying47 gJ mb _ _ rfl (by first | exact MR.out | exact World.ownsMap.drew MR.out) (by unfold maxLen;omega) _ _ _ rfl rfl HN.out (.held (.agg #[.slice a f.all.length c,.int .i64 f.all.length])) [] (kH _ _ _ _) ?_;intro w5 hown5 hturn5;have O5:=hid hown5;have T5:Hid (w4.drew.mapTurned w5 mb):=hid hturn5;clear hown5 hturn5;go_wp2_with fail
 refine aF nofun ?_
 refine aT (by kernel_rfl) ?_
 go_wp2_with fail
 go_ret
 refine ⟨rfl,?_,(((Kept.bY B2.out).trans K3.out).andThen K4.out (fun k hk e=>by rcases e with e | e;exact e;omega)).trans ((Kept.drew w4 _).trans (Kept.gF T5.out))⟩
 have DR:Below w4.heap.size w4 w4.drew:=(Below.refl _ _).drew
 have e5:=O5.out
 rw [<- HFN.out.1] at e5
 have e6:(bP D).files = D.files:=bC D
 have hp:=aG.put (f:={ f with kept:=f.all.length }) (v:=.agg #[.slice a f.all.length c,.int .i64 f.all.length]) (D4.out.below DR) (by rw [e6];exact fun g hg=>(FS.out g hg).below DR) (by rw [e6];exact e5) T5.out (FI4.out.below DR)
 rw [e6] at hp
 exact hp

theorem wC (db mb tb:Nat) (D:aA) (n:ByteArray) (w:World) (h:aG w db mb tb D) (hn:n.size <= maxLen) (he:bG D n ≠ 0) :
  Calls Tryz.prog 120 #[.pointer (some ⟨db,0,none⟩),.string n] w (cV db mb tb (D,bG D n) w):=by
 have C:=hid (mZ db mb tb D n w h hn he)
 have H:=hid h
 obtain ⟨k,hk⟩:∃ k,bG D n = k:=⟨_,rfl⟩
 have hkb:((k:Int) != 0) = true:=bne_iff_ne.2 (by omega)
 rw [hk] at C ⊢
 clear h hn he hk
 go_enter Tryz.func120,Tryz.ntmps120
 go_wp2_with fail
 refine C.out.mono ?_
 rintro e w1 ⟨rfl,hb1⟩
 have B1:=hid hb1
 have L1:=hb1.size
 clear hb1
 go_wp2_with fail
 go_ret
 have BF:=B1.out.alloc L1 (.cells #[.slice none 0 0,.int .i64 0] 134)
 exact ⟨rfl,H.out.below BF,Kept.bY BF⟩

set_option maxRecDepth 20000 in
theorem aBl (db mb tb:Nat) (D:aA) (n:ByteArray) (f:aO) (w:World) (h:aG w db mb tb D) (hw:DWf D) (hd:D.down = false) (hn:n.size <= maxLen) (hf:aC n D.files = some f) (ha:D.armed = 0) :
  Calls Tryz.prog 120 #[.pointer (some ⟨db,0,none⟩),.string n] w (cV db mb tb (bP D,50) w):=by
 have HE:Hid (fO D = 50):=hid (if_pos ha)
 have C:=hid (fE db mb tb D n f w h hd hn hf)
 have H:=hid h
 have HW:=hid hw
 have HN:=hid (cT hn)
 have HFN:=hid (cF hf)
 have HM3:=hid h.lt3
 have hl:=h.lt
 have many:=hw.many
 clear h hw hd hn hf
 go_enter Tryz.func120,Tryz.ntmps120
 go_wp2_with fail
 refine C.out.mono ?_
 rintro e w1 ⟨v,rfl,hfi,hb1⟩
 have HFI:=hid hfi
 obtain ⟨a,c,rfl,_,_⟩:=hfi
 have B1:=hid hb1
 have L1:=hb1.size
 clear hb1
 go_wp2_with fail
 generalize hW:World.alloc w1 _ = w2
 have B2:Hid (Below w.heap.size w w2):=hid (by subst hW;exact B1.out.alloc L1 _)
 have B12:Hid (Below w1.heap.size w1 w2):=hid (by subst hW;exact (Below.refl _ _).alloc (Nat.le_refl _) _)
 have X2:Hid (w2.cell? ⟨w1.heap.size,0,none⟩ = some (.slice a f.all.length c) /\ w2.cell? ⟨w1.heap.size,1,none⟩ = some (.int .i64 f.kept) /\ w2.frozen? ⟨w1.heap.size,0,none⟩ = false /\ w2.frozen? ⟨w1.heap.size,1,none⟩ = false /\ w1.heap.size < w2.heap.size):=hid (by subst hW;exact ⟨by go_cell,by go_cell,by simp,by simp,by simp⟩)
 have D2:Hid (aG w2 db mb tb D):=hid (H.out.below B2.out)
 have NB:Hid (¬ bB db mb tb w1.heap.size):=hid fun e=>by have:=HM3.out _ e;omega
 clear hW
 refine (hU db mb tb D _ D2.out HW.out).mono ?_
 rintro e w3 ⟨rfl,hd3,k3⟩
 rw [HE.out]
 have D3:=hid hd3
 have K3:=hid k3
 clear hd3 k3
 go_wp2_with fail
 go_ret
 exact ⟨rfl,D3.out,(Kept.bY B2.out).trans K3.out⟩

set_option maxRecDepth 20000 in
theorem aDO (db mb tb:Nat) (D:aA) (n:ByteArray) (f:aO) (w:World) (h:aG w db mb tb D) (hw:DWf D) (hd:D.down = false) (hn:n.size <= maxLen) (hf:aC n D.files = some f) (ha:D.armed ≠ 0) :
  Calls Tryz.prog 120 #[.pointer (some ⟨db,0,none⟩),.string n] w (cV db mb tb ({ bP D with files:=bH n D.files },0) w):=by
 have HE:Hid (fO D = 0):=hid (if_neg ha)
 have C:=hid (fE db mb tb D n f w h hd hn hf)
 have H:=hid h
 have HW:=hid hw
 have HN:=hid (cT hn)
 have HFN:=hid (cF hf)
 have HM3:=hid h.lt3
 have hl:=h.lt
 have many:=hw.many
 clear h hw hd hn hf
 go_enter Tryz.func120,Tryz.ntmps120
 go_wp2_with fail
 refine C.out.mono ?_
 rintro e w1 ⟨v,rfl,hfi,hb1⟩
 have HFI:=hid hfi
 obtain ⟨a,c,rfl,_,_⟩:=hfi
 have B1:=hid hb1
 have L1:=hb1.size
 clear hb1
 go_wp2_with fail
 generalize hW:World.alloc w1 _ = w2
 have B2:Hid (Below w.heap.size w w2):=hid (by subst hW;exact B1.out.alloc L1 _)
 have B12:Hid (Below w1.heap.size w1 w2):=hid (by subst hW;exact (Below.refl _ _).alloc (Nat.le_refl _) _)
 have X2:Hid (w2.cell? ⟨w1.heap.size,0,none⟩ = some (.slice a f.all.length c) /\ w2.cell? ⟨w1.heap.size,1,none⟩ = some (.int .i64 f.kept) /\ w2.frozen? ⟨w1.heap.size,0,none⟩ = false /\ w2.frozen? ⟨w1.heap.size,1,none⟩ = false /\ w1.heap.size < w2.heap.size):=hid (by subst hW;exact ⟨by go_cell,by go_cell,by simp,by simp,by simp⟩)
 have D2:Hid (aG w2 db mb tb D):=hid (H.out.below B2.out)
 have NB:Hid (¬ bB db mb tb w1.heap.size):=hid fun e=>by have:=HM3.out _ e;omega
 clear hW
 refine (hU db mb tb D _ D2.out HW.out).mono ?_
 rintro e w3 ⟨rfl,hd3,k3⟩
 rw [HE.out]
 have D3:=hid hd3
 have K3:=hid k3
 clear hd3 k3
 have X3:Hid (w3.cell? ⟨w1.heap.size,0,none⟩ = some (.slice a f.all.length c) /\ w3.cell? ⟨w1.heap.size,1,none⟩ = some (.int .i64 f.kept) /\ w3.frozen? ⟨w1.heap.size,0,none⟩ = false /\ w3.frozen? ⟨w1.heap.size,1,none⟩ = false /\ w1.heap.size < w3.heap.size):=hid ⟨K3.out.cell X2.out.1 NB.out,K3.out.cell X2.out.2.1 NB.out,(K3.out.frozen (a:=⟨w1.heap.size,0,none⟩) X2.out.2.2.2.2 NB.out).trans X2.out.2.2.1,(K3.out.frozen (a:=⟨w1.heap.size,1,none⟩) X2.out.2.2.2.2 NB.out).trans X2.out.2.2.2.1,Nat.lt_of_lt_of_le X2.out.2.2.2.2 K3.out.size⟩
 obtain ⟨x0,x1,y0,y1,L3⟩:=X3.out
 obtain ⟨vals,hmap,hfs⟩:=D3.out.fs
 rw [bC] at hmap hfs
 have MR:=hid hmap
 have FS:=hid hfs
 have c03:=D3.out.c0
 clear hmap hfs
 go_wp2_with (at_delete;refine wpList_delete_own _ rfl _ _ 47 9 rfl 134 law Tryz.underlying47 gJ mb _ _ rfl MR.out _ _ rfl HN.out ?_;intro w5 hown5 hturn5;have O5:=hid hown5;have T5:Hid (w3.mapTurned w5 mb):=hid hturn5;clear hown5 hturn5 c03 x0 x1 y0 y1)
 go_ret
 refine ⟨rfl,?_,((Kept.bY B2.out).trans K3.out).trans (Kept.gF T5.out)⟩
 have e6:(bP D).files = D.files:=bC D
 have hp:=aG.del D3.out (by rw [e6];exact FS.out) (by rw [e6];exact O5.out) T5.out
 rw [e6] at hp
 exact hp

theorem aAz (db mb tb:Nat) (D:aA) (n:ByteArray) (to:ByteArray) (w:World) (h:aG w db mb tb D) (hn:n.size <= maxLen) (he:bG D n ≠ 0) :
  Calls Tryz.prog 178 #[.pointer (some ⟨db,0,none⟩),.string n,.string to] w (cV db mb tb (D,bG D n) w):=by
 have C:=hid (mZ db mb tb D n w h hn he)
 have H:=hid h
 obtain ⟨k,hk⟩:∃ k,bG D n = k:=⟨_,rfl⟩
 have hkb:((k:Int) != 0) = true:=bne_iff_ne.2 (by omega)
 rw [hk] at C ⊢
 clear h hn he hk
 go_enter Tryz.func178,Tryz.ntmps178
 go_wp2_with fail
 refine C.out.mono ?_
 rintro e w1 ⟨rfl,hb1⟩
 have B1:=hid hb1
 have L1:=hb1.size
 clear hb1
 go_wp2_with fail
 go_ret
 have BF:=B1.out.alloc L1 (.cells #[.slice none 0 0,.int .i64 0] 134)
 exact ⟨rfl,H.out.below BF,Kept.bY BF⟩

set_option maxRecDepth 20000 in
theorem aDM (db mb tb:Nat) (D:aA) (n:ByteArray) (to:ByteArray) (f:aO) (w:World) (h:aG w db mb tb D) (hw:DWf D) (hd:D.down = false) (hn:n.size <= maxLen) (hf:aC n D.files = some f) (hts:to.size <= 9223372036854775807) (ht:¬ (1 <= to.size /\ to.size <= 16)) :
  Calls Tryz.prog 178 #[.pointer (some ⟨db,0,none⟩),.string n,.string to] w (cV db mb tb (D,2) w):=by
 have HTB:Hid (decide (1 <= to.size /\ to.size <= 16) = false):=hid (decide_eq_false ht)
 have HTS:=hid hts
 clear ht hts
 have C:=hid (fE db mb tb D n f w h hd hn hf)
 have H:=hid h
 have HW:=hid hw
 have HN:=hid (cT hn)
 have HFN:=hid (cF hf)
 have HM3:=hid h.lt3
 have hl:=h.lt
 have many:=hw.many
 clear h hw hd hn hf
 go_enter Tryz.func178,Tryz.ntmps178
 go_wp2_with fail
 refine C.out.mono ?_
 rintro e w1 ⟨v,rfl,hfi,hb1⟩
 have HFI:=hid hfi
 obtain ⟨a,c,rfl,_,_⟩:=hfi
 have B1:=hid hb1
 have L1:=hb1.size
 clear hb1
 go_wp2_with fail
 refine (iT to _ HTS.out).mono ?_
 rintro e w1' ⟨rfl,rfl⟩
 rw [HTB.out]
 go_wp2_with fail
 go_ret
 have BF:=B1.out.alloc L1 (.cells #[.slice a f.all.length c,.int .i64 f.kept] 134)
 exact ⟨rfl,H.out.below BF,Kept.bY BF⟩

set_option maxRecDepth 20000 in
theorem aDL (db mb tb:Nat) (D:aA) (n:ByteArray) (to:ByteArray) (f:aO) (w:World) (h:aG w db mb tb D) (hw:DWf D) (hd:D.down = false) (hn:n.size <= maxLen) (hf:aC n D.files = some f) (ht:1 <= to.size /\ to.size <= 16) (ha:D.armed = 0) :
  Calls Tryz.prog 178 #[.pointer (some ⟨db,0,none⟩),.string n,.string to] w (cV db mb tb (bP D,50) w):=by
 have HE:Hid (fO D = 50):=hid (if_pos ha)
 have HTB:Hid (decide (1 <= to.size /\ to.size <= 16) = true):=hid (decide_eq_true ht)
 have HTS:Hid (to.size <= 9223372036854775807):=hid (by omega)
 clear ht
 have C:=hid (fE db mb tb D n f w h hd hn hf)
 have H:=hid h
 have HW:=hid hw
 have HN:=hid (cT hn)
 have HFN:=hid (cF hf)
 have HM3:=hid h.lt3
 have hl:=h.lt
 have many:=hw.many
 clear h hw hd hn hf
 go_enter Tryz.func178,Tryz.ntmps178
 go_wp2_with fail
 refine C.out.mono ?_
 rintro e w1 ⟨v,rfl,hfi,hb1⟩
 have HFI:=hid hfi
 obtain ⟨a,c,rfl,_,_⟩:=hfi
 have B1:=hid hb1
 have L1:=hb1.size
 clear hb1
 go_wp2_with fail
 generalize hW:World.alloc w1 _ = w2
 have B2:Hid (Below w.heap.size w w2):=hid (by subst hW;exact B1.out.alloc L1 _)
 have B12:Hid (Below w1.heap.size w1 w2):=hid (by subst hW;exact (Below.refl _ _).alloc (Nat.le_refl _) _)
 have X2:Hid (w2.cell? ⟨w1.heap.size,0,none⟩ = some (.slice a f.all.length c) /\ w2.cell? ⟨w1.heap.size,1,none⟩ = some (.int .i64 f.kept) /\ w2.frozen? ⟨w1.heap.size,0,none⟩ = false /\ w2.frozen? ⟨w1.heap.size,1,none⟩ = false /\ w1.heap.size < w2.heap.size):=hid (by subst hW;exact ⟨by go_cell,by go_cell,by simp,by simp,by simp⟩)
 have D2:Hid (aG w2 db mb tb D):=hid (H.out.below B2.out)
 have NB:Hid (¬ bB db mb tb w1.heap.size):=hid fun e=>by have:=HM3.out _ e;omega
 clear hW
 refine (iT to _ HTS.out).mono ?_
 rintro e w1' ⟨rfl,rfl⟩
 rw [HTB.out]
 go_wp2_with fail
 refine (hU db mb tb D _ D2.out HW.out).mono ?_
 rintro e w3 ⟨rfl,hd3,k3⟩
 rw [HE.out]
 have D3:=hid hd3
 have K3:=hid k3
 clear hd3 k3
 go_wp2_with fail
 go_ret
 exact ⟨rfl,D3.out,(Kept.bY B2.out).trans K3.out⟩

set_option maxRecDepth 20000 in
theorem aHz (db mb tb:Nat) (D:aA) (n:ByteArray) (to:ByteArray) (f:aO) (w:World) (h:aG w db mb tb D) (hw:DWf D) (hd:D.down = false) (hn:n.size <= maxLen) (hf:aC n D.files = some f) (ht:1 <= to.size /\ to.size <= 16) (ha:D.armed ≠ 0) :
  Calls Tryz.prog 178 #[.pointer (some ⟨db,0,none⟩),.string n,.string to] w (cV db mb tb ({ bP D with files:=bL { f with name:=to } (bH n D.files) },0) w):=by
 have HE:Hid (fO D = 0):=hid (if_neg ha)
 have HTB:Hid (decide (1 <= to.size /\ to.size <= 16) = true):=hid (decide_eq_true ht)
 have HTS:Hid (to.size <= 9223372036854775807):=hid (by omega)
 have HTN:Hid (keyOf Tryz.prog 9 (.string to) = some (iN to)):=hid (cT (by unfold maxLen;omega))
 clear ht
 have C:=hid (fE db mb tb D n f w h hd hn hf)
 have H:=hid h
 have HW:=hid hw
 have HN:=hid (cT hn)
 have HFN:=hid (cF hf)
 have HM3:=hid h.lt3
 have hl:=h.lt
 have many:=hw.many
 clear h hw hd hn hf
 go_enter Tryz.func178,Tryz.ntmps178
 go_wp2_with fail
 refine C.out.mono ?_
 rintro e w1 ⟨v,rfl,hfi,hb1⟩
 have HFI:=hid hfi
 obtain ⟨a,c,rfl,_,_⟩:=hfi
 have B1:=hid hb1
 have L1:=hb1.size
 clear hb1
 go_wp2_with fail
 generalize hW:World.alloc w1 _ = w2
 have B2:Hid (Below w.heap.size w w2):=hid (by subst hW;exact B1.out.alloc L1 _)
 have B12:Hid (Below w1.heap.size w1 w2):=hid (by subst hW;exact (Below.refl _ _).alloc (Nat.le_refl _) _)
 have X2:Hid (w2.cell? ⟨w1.heap.size,0,none⟩ = some (.slice a f.all.length c) /\ w2.cell? ⟨w1.heap.size,1,none⟩ = some (.int .i64 f.kept) /\ w2.frozen? ⟨w1.heap.size,0,none⟩ = false /\ w2.frozen? ⟨w1.heap.size,1,none⟩ = false /\ w1.heap.size < w2.heap.size):=hid (by subst hW;exact ⟨by go_cell,by go_cell,by simp,by simp,by simp⟩)
 have D2:Hid (aG w2 db mb tb D):=hid (H.out.below B2.out)
 have NB:Hid (¬ bB db mb tb w1.heap.size):=hid fun e=>by have:=HM3.out _ e;omega
 clear hW
 refine (iT to _ HTS.out).mono ?_
 rintro e w1' ⟨rfl,rfl⟩
 rw [HTB.out]
 go_wp2_with fail
 refine (hU db mb tb D _ D2.out HW.out).mono ?_
 rintro e w3 ⟨rfl,hd3,k3⟩
 rw [HE.out]
 have D3:=hid hd3
 have K3:=hid k3
 clear hd3 k3
 have X3:Hid (w3.cell? ⟨w1.heap.size,0,none⟩ = some (.slice a f.all.length c) /\ w3.cell? ⟨w1.heap.size,1,none⟩ = some (.int .i64 f.kept) /\ w3.frozen? ⟨w1.heap.size,0,none⟩ = false /\ w3.frozen? ⟨w1.heap.size,1,none⟩ = false /\ w1.heap.size < w3.heap.size):=hid ⟨K3.out.cell X2.out.1 NB.out,K3.out.cell X2.out.2.1 NB.out,(K3.out.frozen (a:=⟨w1.heap.size,0,none⟩) X2.out.2.2.2.2 NB.out).trans X2.out.2.2.1,(K3.out.frozen (a:=⟨w1.heap.size,1,none⟩) X2.out.2.2.2.2 NB.out).trans X2.out.2.2.2.1,Nat.lt_of_lt_of_le X2.out.2.2.2.2 K3.out.size⟩
 obtain ⟨x0,x1,y0,y1,L3⟩:=X3.out
 obtain ⟨vals,hmap,hfs⟩:=D3.out.fs
 rw [bC] at hmap hfs
 have MR:=hid hmap
 have FS:=hid hfs
 have c03:=D3.out.c0
 clear hmap hfs
 go_wp2_with (at_delete;refine wpList_delete_own _ rfl _ _ 47 9 rfl 134 law Tryz.underlying47 gJ mb _ _ rfl MR.out _ _ rfl HN.out ?_;intro w4 hown4 hturn4;have O4:=hid hown4;have T4:Hid (w3.mapTurned w4 mb):=hid hturn4;clear hown4 hturn4 c03 x0 x1 y0 y1)
 have e6:(bP D).files = D.files:=bC D
 have D4:Hid (aG w4 db mb tb { bP D with files:=bH n D.files }):=hid (by
  have hp:=aG.del D3.out (by rw [e6];exact FS.out) (by rw [e6];exact O4.out) T4.out
  rw [e6] at hp
  exact hp)
 have K4:Hid (Kept w3 w4 (fun k=>k = mb)):=hid (Kept.qS T4.out)
 have NM:Hid (¬ w1.heap.size = mb):=hid fun e=>NB.out (.inr (.inl e))
 have XR:Hid (w4.cell? ⟨db,0,none⟩ = some (.map (some mb)) /\ w4.cell? ⟨w1.heap.size,0,none⟩ = some (.slice a f.all.length c) /\ w4.cell? ⟨w1.heap.size,1,none⟩ = some (.int .i64 f.kept)):=Lib.hid
  ⟨D4.out.c0,K4.out.cell X3.out.1 NM.out,K4.out.cell X3.out.2.1 NM.out⟩
 have FI4:Hid (dL w4 db mb tb (.agg #[.slice a f.all.length c,.int .i64 f.kept]) { f with name:=to }):=hid (((HFI.out.below B12.out).kept K3.out).kept (Kept.gF T4.out))
 have MR4:Hid (gM w4 mb vals (bH n D.files)):=hid (pV (by have h:=O4.out;rw [aE3] at h;exact h))
 have FS4:Hid (∀ g ∈ bH n D.files,dL w4 db mb tb (vals g.name) g):=hid fun g hg=>(FS.out g (mH.1 hg).1).kept (Kept.gF T4.out)
 have many2:(bH n D.files).length <= 1000:=Nat.le_trans (List.length_filter_le _ _) many
 clear e6
 refine aN [0,1,3,7,0,0,63] 0 (fun w'=>w'.cell? ⟨db,0,none⟩ = some (.map (some mb)) /\ w'.cell? ⟨w1.heap.size,0,none⟩ = some (.slice a f.all.length c) /\ w'.cell? ⟨w1.heap.size,1,none⟩ = some (.int .i64 f.kept)) (by kernel_rfl) ?_
 refine aB [0,1,2,3,4,5] (by kernel_rfl) (L:=bm 7 63) (by kernel_rfl) (f':=1) rfl (fun _ _ _ _ h=>h) (fun w o h=>(((aP.cell _ _).and ((aP.cell _ _).and (aP.cell _ _))).alloc h o)) (.inr XR.out) ?_
 simp only [sF,sL]
 iterate 6 (first | (refine aQ _ (by rfl) (fun w' hs=>by obtain ⟨y0,y1,y2⟩:=hs;go_simp;try with_reducible rfl) rfl ?_;simp only [Act.put,sA]) | (refine aD _ (by rfl) (fun w'=>by go_simp;try with_reducible rfl) ?_;simp only [Act.put,sA]))
 refine aE ?_
 refine aI 6 (by kernel_rfl) (L:=bm 7 127) (by kernel_rfl) ?_
 simp only [sL]
 refine wpList_mapUpdate_in _ rfl _ _ _ 47 rfl 9 134 law Tryz.underlying47 gJ mb _ _ rfl (by first | exact MR4.out | exact World.ownsMap.drew MR4.out) (by unfold maxLen;omega) _ _ _ rfl rfl HTN.out (.held (.agg #[.slice a f.all.length c,.int .i64 f.kept])) [] (kH _ _ _ _) ?_;intro w5 hown5 hturn5;have O5:=hid hown5;have T5:Hid (w4.drew.mapTurned w5 mb):=hid hturn5;clear hown5 hturn5;go_wp2_with fail
 refine aF nofun ?_
 refine aT (by kernel_rfl) ?_
 go_wp2_with fail
 go_ret
 refine ⟨rfl,?_,(((Kept.bY B2.out).trans K3.out).trans (Kept.gF T4.out)).trans ((Kept.drew w4 _).trans (Kept.gF T5.out))⟩
 have DR:Below w4.heap.size w4 w4.drew:=(Below.refl _ _).drew
 exact aG.put (f:={ f with name:=to }) (v:=.agg #[.slice a f.all.length c,.int .i64 f.kept]) (D4.out.below DR) (fun g hg=>(FS4.out g hg).below DR) O5.out T5.out (FI4.out.below DR)
end Go.Proofs.YtjdglpcnkiioeaaGreat
