/- Several texts in one: Crash, Nm, Vp, Wt for vltkeeps_law_holds. No conditions but those stated. -/
import Derived.Test.YtjdglpcnkiioeaaGreatVkb16
import Derived.Test.YtjdglpcnkiioeaaGreatVkb24
set_option maxHeartbeats 16000000
namespace Go.Proofs.YtjdglpcnkiioeaaGreat
open Go.Lib (hid)
open Go.RowKit Go.Maps Go.Proofs.Own

theorem bA.mid {A B:List aO} {f:aO} (h:bA (A ++ f :: B)):(∀ g ∈ A,eW g.name f.name = true) /\ ∀ g ∈ B,eW f.name g.name = true:=by
 obtain ⟨_,h2,h3⟩:=List.pairwise_append.1 h
 exact ⟨fun g hg=>h3 g hg f List.mem_cons_self,(List.pairwise_cons.1 h2).1⟩
theorem yH {A B:List aO} {f:aO} (h:bA (A ++ f :: B)):aC f.name (A ++ f :: B) = some f:=by
 obtain ⟨h1,_⟩:=h.mid
 unfold aC
 rw [List.find?_append,List.find?_eq_none.2 (fun g hg=>by have:=nG (h1 g hg);simpa using this)]
 simp
theorem tA {A B:List aO} {f:aO} (h:bA (A ++ f :: B)):bH f.name (A ++ f :: B) = A ++ B:=by
 obtain ⟨h1,h2⟩:=h.mid
 unfold bH
 rw [List.filter_append,List.filter_cons]
 rw [List.filter_eq_self.2 (fun g hg=>by have:=nG (h1 g hg);simpa using this)]
 have hB:B.filter (fun g=>!decide (g.name = f.name)) = B:=List.filter_eq_self.2 (fun g hg=>by have:=(nG (h2 g hg)).symm;simpa using this)
 rw [hB]
 simp
theorem aBt {f:aO}:∀ {A B:List aO},(∀ g ∈ A,eW g.name f.name = true) -> (∀ g ∈ B,eW f.name g.name = true) -> insFile f (A ++ B) = A ++ f :: B
 | [],[],_,_=>rfl
 | [],b :: B,_,h2=>by
  show insFile f (b :: B) = _
  rw [insFile,if_pos (h2 b List.mem_cons_self)]
  rfl
 | a :: A,B,h1,h2=>by
  show insFile f (a :: (A ++ B)) = _
  rw [insFile,aBF (h1 a List.mem_cons_self),if_neg (by decide),aBt (fun g hg=>h1 g (List.mem_cons_of_mem _ hg)) h2]
  rfl
theorem aBL {A B:List aO} {f f':aO} (h:bA (A ++ f :: B)) (hn:f'.name = f.name):bL f' (A ++ f :: B) = A ++ f' :: B:=by
 obtain ⟨h1,h2⟩:=h.mid
 unfold bL
 rw [hn,tA h]
 exact aBt (by rw [hn];exact h1) (by rw [hn];exact h2)

def dB (f:aO) (ts:List (Nat × Nat)):List aO :=
 if f.kept < f.all.length then (if f.all.take f.kept ++ cR (f.all.drop f.kept) (ts.headD (0,0)) = [] then [] else [⟨f.name,f.all.take f.kept ++ cR (f.all.drop f.kept) (ts.headD (0,0)),(f.all.take f.kept ++ cR (f.all.drop f.kept) (ts.headD (0,0))).length⟩])
 else if f.all = [] then [] else [f]
def lV (f:aO) (ts:List (Nat × Nat)):List (Nat × Nat):=if f.kept < f.all.length then ts.tail else ts
def crashL:List aO -> List (Nat × Nat) -> List aO
 | [],_=>[]
 | f :: r,ts=>dB f ts ++ crashL r (lV f ts)
def jS:List aO -> List (Nat × Nat) -> List (Nat × Nat)
 | [],ts=>ts
 | f :: r,ts=>jS r (lV f ts)
def cW (D:aA) (ts:List (Nat × Nat)):aA:={ D with down:=true,armed:=-1,files:=crashL D.files ts }
theorem aDF (A B:List aO):∀ ts,crashL (A ++ B) ts = crashL A ts ++ crashL B (jS A ts):=by
 induction A with
 | nil=>intro ts;rfl
 | cons f r ih=>intro ts;simp only [List.cons_append,crashL,jS,ih,List.append_assoc]
theorem aDG (A B:List aO):∀ ts,jS (A ++ B) ts = jS B (jS A ts):=by
 induction A with
 | nil=>intro ts;rfl
 | cons f r ih=>intro ts;simp only [List.cons_append,jS,ih]
theorem tL (l:List Nat) (t:Nat × Nat):(cR l t).length <= l.length:=by
 unfold cR
 split
 ·rw [eT];exact List.length_take_le' _ _
 ·exact List.length_take_le' _ _
theorem aIz {l:List Nat} (h:∀ c ∈ l,c < 256) (t:Nat × Nat):∀ c ∈ cR l t,c < 256:=by
 unfold cR
 split
 ·exact lH (fun c hc=>h c (List.mem_of_mem_take hc)) _ _
 ·exact fun c hc=>h c (List.mem_of_mem_take hc)

theorem rC (f:aO) (ts:List (Nat × Nat)):(dB f ts).length <= 1:=by
 unfold dB
 split <;> split <;> simp
theorem mP:∀ (L:List aO) (ts:List (Nat × Nat)),(crashL L ts).length <= L.length
 | [],_=>Nat.le_refl _
 | f :: r,ts=>by
  have h1:=rC f ts
  have h2:=mP r (lV f ts)
  simp only [crashL,List.length_append,List.length_cons]
  omega
theorem Bytes.aEe {w:World} {v x:Value} {l:List Nat} {g tc:Nat} {t:TypeId} (h:Bytes w v l) (hg:v.ownBlock = some g) (hne:l ≠ []) (hb:w.heap[tc]? = some (.cells #[x] t (0,0))) (hx:∀ y,x ≠ .int .u8 y):g ≠ tc:=by
 rintro rfl
 obtain ⟨b,o,c,rfl,_,_,hc⟩:=h.fG (List.length_pos_iff.2 hne)
 obtain rfl:b = g:=Option.some.inj hg
 have h0:=hc 0 (List.length_pos_iff.2 hne)
 simp only [World.cell?,hb,Nat.add_zero] at h0
 cases o with
 | zero=>exact hx _ (Option.some.inj h0)
 | succ o=>simp at h0
theorem Bytes.nL {w:World} {v:Value} {l:List Nat} (h:Bytes w v l) {p:Addr} (y:Value) (hne:∀ x,w.cell? p ≠ some (.int .u8 x)):Bytes (w.setCell p y) v l:=⟨h.shape,Reads.nL h.rd y hne,h.lt,h.small⟩
theorem Bytes.lS {w w':World} {v:Value} {l:List Nat} {S:Nat -> Prop} (h:Bytes w v l) (hk:Kept w w' S) (hs:l ≠ [] -> ∀ b,v.ownBlock = some b -> ¬ S b):Bytes w' v l:=by
 by_cases hl:l = []
 ·subst hl
  exact ⟨h.shape,by obtain ⟨a,c,rfl,_⟩:=h.shape;exact Reads.nil _ _ _ _,h.lt,h.small⟩
 ·exact h.kept hk (hs hl)
theorem aG.aJe {w w':World} {db mb tb tc:Nat} {D:aA} {x:Value} {t:TypeId} (h:aG w db mb tb D) (hb:w.heap[tc]? = some (.cells #[x] t (0,0))) (hx:∀ y,x ≠ .int .u8 y) (hk:Kept w w' (fun k=>k = tc)) (ht:¬ bB db mb tb tc):aG w' db mb tb D :=
 h.kept hk (fun k h1 h2=>ht (h2 ▸ h1)) fun vals f _ hf=>by
  obtain ⟨a,c,h1,h2,h3⟩:=hf
  exact ⟨a,c,h1,h2.lS hk (fun hne b hb'=>h2.aEe hb' hne hb hx),h3⟩

theorem aG.look {w:World} {db mb tb:Nat} {D:aA} (h:aG w db mb tb D) {n:ByteArray} {f:aO} (hf:aC n D.files = some f) (hn:n.size <= maxLen) :
  ∃ a c,(Instr.lookup 47 (.map (some mb)) (.string n) false).run Tryz.prog w = .ok (.agg #[.slice a f.all.length c,.int .i64 f.kept]) w /\ dL w db mb tb (.agg #[.slice a f.all.length c,.int .i64 f.kept]) f:=by
 obtain ⟨vals,hm,hfs⟩:=h.fs
 obtain ⟨hfn,hfm⟩:=cF hf
 have hfi:=hfs f hfm
 obtain ⟨a,c,hv,hB,hg⟩:=hfi
 rw [hfn] at hv
 obtain ⟨v,ps,hrun,hR⟩:=World.ownsMap.lookup hm law Tryz.underlying47 (aIQ w) (kH _ _ _ _) (cT hn)
 obtain ⟨_,e2⟩:=mW hR
 rw [dat_at,hf] at e2
 simp only [Prod.mk.injEq,DataW.held.injEq] at e2
 refine ⟨a,c,by rw [hrun,<- e2.1,hv],a,c,rfl,hB,hg⟩

structure CrI (w:World) (db mb tb:Nat) (D:aA) (ts:List (Nat × Nat)) (nv:Value) (k:Nat) (wr:World):Prop where
 dsk:aG wr db mb tb { D with down:=true,armed:=-1,files:=crashL (D.files.take k) ts ++ D.files.drop k }
 tear:∃ v,wr.heap[w.heap.size]? = some (.cells #[v] 24 (0,0)) /\ (∃ a n c,v = .slice a n c) /\ dV wr v (jS (D.files.take k) ts) /\ (jS (D.files.take k) ts = [] \/ ∀ b,v.ownBlock = some b -> ¬ (bB db mb tb b \/ w.heap.size <= b))
 nam:xR wr nv (D.files.map (·.name))
 kept:Kept w wr (bB db mb tb)

set_option maxRecDepth 20000 in
theorem aDK (db mb tb:Nat) (D:aA) (v:Value) (ts:List (Nat × Nat)) (w:World) (h:aG w db mb tb D) (hw:aW D) (hT:dV w v ts) (hap:ts = [] \/ ∀ b,v.ownBlock = some b -> ¬ bB db mb tb b) :
  Calls Tryz.prog 21 #[.pointer (some ⟨db,0,none⟩),v] w (cV db mb tb (cW D ts,0) w):=by
 have H:=hid h
 have HT:=hid hT
 have HAP:=hid hap
 have HW:=hid hw
 have HLT3:=hid h.lt3
 have many:D.files.length <= 128:=hw.few
 obtain ⟨av,cv,hv,_⟩:=hT.1.shape
 subst hv
 have LT:Hid (ts = [] \/ ∀ b,(Value.slice av (List.map tX ts).length cv).ownBlock = some b -> b < w.heap.size):=hid (by
  cases ts with
  | nil=>exact .inl rfl
  | cons x r =>
   right
   intro b hb
   obtain ⟨b',o,e,hl,_⟩:=hT.1.at (j:=0) (by simp)
   rw [e] at hb
   exact (Option.some.inj hb) ▸ hl)
 generalize (List.map tX ts).length = nt at *
 clear h hT hap hw
 go_enter Tryz.func21,Tryz.ntmps21
 go_wp2_with fail
 have BX:Below w.heap.size w (w.alloc (.cells #[.slice av nt cv] 24)):=(Below.refl _ _).alloc (Nat.le_refl _) _
 have TX:(w.alloc (.cells #[.slice av nt cv] 24)).heap[w.heap.size]? = some (.cells #[.slice av nt cv] 24 (0,0)):=heap_alloc_new _ _
 generalize World.alloc w _ = wa at *
 have BA:=hid BX
 have TA:=hid TX
 have la:w.heap.size < wa.heap.size:=lt_of_block TX
 have HA:=hid (H.out.below BX)
 clear BX TX
 refine (vZ db mb tb D _ HA.out).mono ?_
 rintro e wa2 ⟨rfl,rfl⟩
 have c2:=HA.out.c2
 have c3:=HA.out.c3
 have f2:=HA.out.f2
 have f3:=HA.out.f3
 have hl:=HA.out.lt
 go_wp2_with fail
 generalize hwb:World.setCell (World.setCell wa _ _) _ _ = wb
 have DB:Hid (aG wb db mb tb { D with down:=true,armed:=-1 }):=hid (by subst hwb;exact (HA.out.aBN true).pZ (-1))
 have KB:Hid (Kept wa wb (bB db mb tb)):=hid (by subst hwb;exact (Kept.mB _ _ _ _ _ _).trans (Kept.mB _ _ _ _ _ _))
 clear hwb c2 c3 f2 f3
 refine (aJ3 db mb tb _ _ DB.out (by have h:=HW.out.wf;exact ⟨h.room0,h.room1,Int.le_refl _,(by decide:(-1:Int) <= 9223372036854775807),h.steps0,h.steps1,h.many,h.each⟩)).mono ?_
 rintro e wc ⟨nv,rfl,hnv,hbc,hno⟩
 have NV:=hid hnv
 have BC:=hid hbc
 obtain ⟨an,cn,rfl,_⟩:=hnv
 have NW:Hid (bB db mb tb w.heap.size -> False):=hid fun e=>by have:=HLT3.out _ e;omega
 have HNO:Hid (∀ b,(Value.slice an (List.map (fun f:aO=>f.name) D.files).length cn).ownBlock = some b -> ¬ (bB db mb tb b \/ b = w.heap.size)):=hid fun b hb=>by
  have h1:=hno b hb
  have h2:=KB.out.size
  rintro (e | e)
  ·have:=HLT3.out b e;omega
  ·omega
 have IC:Hid (CrI w db mb tb D ts (.slice an (List.map (fun f:aO=>f.name) D.files).length cn) 0 wc):=hid (by
  have tb1:wb.heap[w.heap.size]? = some (.cells #[.slice av nt cv] 24 (0,0)):=(KB.out.block _ la (fun e=>NW.out e)).trans TA.out
  refine ⟨DB.out.below BC.out,⟨_,(BC.out.block _ (lt_of_block tb1)).trans tb1,⟨_,_,_,rfl⟩,?_,?_⟩,NV.out,(((Kept.bY BA.out).trans KB.out).trans (Kept.bY BC.out))⟩
  ·exact ((HT.out.below BA.out).kept KB.out HAP.out).below BC.out
  ·rcases HAP.out with e | h1
   ·exact .inl e
   ·rcases LT.out with e | h2
    ·exact .inl e
    ·exact .inr fun b hb h=>h.elim (h1 b hb) (fun h=>by have:=h2 b hb;omega))
 clear hbc hno TA la
 have HNL:Hid ((List.map (fun f:aO=>f.name) D.files).length = D.files.length):=hid (List.length_map _)
 rw [HNL.out] at HNO IC ⊢
 go_wp2_with fail
 go_loopw [21] (fun y wr=>∃ k:Nat,k <= D.files.length /\ y = .int .i64 k /\ CrI w db mb tb D ts (.slice an D.files.length cn) k wr) (fun y _=>D.files.length - (intOf y).toNat)
 case atStart=>exact ⟨0,Nat.zero_le _,rfl,IC.out⟩
 case round =>
  obtain ⟨k,hk,rfl,hi⟩:=hrel
  have I:=hid hi
  clear hi IC NV
  by_cases hlt:k < D.files.length
  ·have HSP:Hid (D.files.drop k = D.files[k] :: D.files.drop (k + 1) /\ D.files.take (k + 1) = D.files.take k ++ [D.files[k]]):=hid ⟨List.drop_eq_getElem_cons hlt,List.take_succ_eq_append_getElem hlt⟩
   have HNM:Hid (∃ b o,an = some ⟨b,o,none⟩ /\ wr.cell? ⟨b,o + k,none⟩ = some (.string (D.files[k]).name)):=hid (by
    obtain ⟨a',c',e,hc⟩:=I.out.nam
    obtain ⟨b,o,e1,e2⟩:=hc k (by rw [List.length_map];exact hlt)
    injection e with e3
    exact ⟨b,o,e3.trans e1,by rw [e2,List.getElem_map]⟩)
   obtain ⟨nb,no,rfl,hnc⟩:=HNM.out
   have HEA:Hid ((D.files[k]).name.size <= 16 /\ (D.files[k]).kept <= (D.files[k]).all.length):=hid (HW.out.wf.each _ (List.getElem_mem hlt))
   have HCR:Hid (crashL (D.files.take (k + 1)) ts = crashL (D.files.take k) ts ++ dB D.files[k] (jS (D.files.take k) ts) /\ jS (D.files.take (k + 1)) ts = lV D.files[k] (jS (D.files.take k) ts)):=hid (by
    rw [HSP.out.2,aDF,aDG]
    exact ⟨by simp [crashL],rfl⟩)
   obtain ⟨hdk,⟨tv,ht1,⟨ta,tn,tcp,rfl⟩,ht3,ht4⟩,hnam,hkk⟩:=I.out
   rw [HSP.out.1] at hdk
   have HLA:Hid ((crashL (D.files.take k) ts).length <= (D.files.take k).length):=hid (mP _ _)
   generalize D.files[k] = f at *
   generalize crashL (D.files.take k) ts = A at *
   generalize jS (D.files.take k) ts = T at *
   obtain ⟨BQ,hBQ⟩:∃ B,B = D.files.drop (k + 1):=⟨_,rfl⟩
   rw [<- hBQ] at hdk
   have HBQ:=hid hBQ
   have HD:=hid hdk
   have HRS:Hid (bA (A ++ f :: BQ)):=hid (by obtain ⟨_,hm,_⟩:=hdk.fs;exact hm.rising)
   obtain ⟨a,c,hrun,hfi⟩:=hdk.look (n:=f.name) (f:=f) (yH HRS.out) (by have:=HEA.out.1;unfold maxLen;omega)
   have FI:=hid hfi
   have TC:=hid (And.intro ht1 (And.intro ht3 ht4))
   have ltc:w.heap.size < wr.heap.size:=lt_of_block ht1
   have ldb:db < wr.heap.size:=hdk.lt
   have HLN:Hid ((A ++ f :: BQ).length <= 128):=hid (by
    rw [hBQ,<- HSP.out.1]
    have:=HLA.out
    rw [List.length_append,List.length_drop]
    rw [List.length_take] at this
    omega)
   have HKEY:Hid (keyOf Tryz.prog 9 (.string f.name) = some (iN f.name)):=hid (cT (by have:=HEA.out.1;unfold maxLen;omega))
   have KK:=hid hkk
   have NMR:=hid hnam
   have c0:=hdk.c0
   have hbz:(Value.slice a f.all.length c) = (Value.slice a f.all.length c):=rfl
   have HFL:Hid (f.all.length <= 2097152):=hid (by obtain ⟨_,_,_,hB,_⟩:=hfi;exact hB.small)
   have k0:(0:Int) <= (k:Int):=by omega
   have k1:(k:Int) < (D.files.length:Int):=by omega
   have hfl:(f.all.length:Int) <= 2097152:=by have:=HFL.out;omega
   clear hBQ hdk hfi ht1 ht3 ht4 hkk hnam hbz
   by_cases hgt:f.kept < f.all.length
   ·have hgt':(f.kept:Int) < (f.all.length:Int):=by omega
    obtain ⟨th,hth⟩:∃ th,T.headD (0,0) = th:=⟨_,rfl⟩
    have HTH:=hid hth
    clear hth
    have B1:Hid (Below wr.heap.size wr (wr.alloc (.cells #[.slice a f.all.length c,.int .i64 f.kept] 134))):=hid ((Below.refl _ _).alloc (Nat.le_refl _) _)
    have HT1:Hid (lV f T = T.tail):=hid (if_pos hgt)
    have HFN:Hid (f.all ≠ []):=hid (fun e=>by rw [e] at hgt;exact absurd hgt (Nat.not_lt_zero _))
    have HCR1:Hid (dB f T = if (f.all.take f.kept ++ cR (f.all.drop f.kept) th) = [] then [] else [⟨f.name,(f.all.take f.kept ++ cR (f.all.drop f.kept) th),(f.all.take f.kept ++ cR (f.all.drop f.kept) th).length⟩]):=hid (by unfold dB;rw [if_pos hgt,HTH.out])
    go_wp2_with fail
    have X1':((wr.alloc (.cells #[.slice a f.all.length c,.int .i64 f.kept] 134)).cell? ⟨wr.heap.size,0,none⟩ = some (.slice a f.all.length c) /\ (wr.alloc (.cells #[.slice a f.all.length c,.int .i64 f.kept] 134)).cell? ⟨wr.heap.size,1,none⟩ = some (.int .i64 f.kept) /\ (wr.alloc (.cells #[.slice a f.all.length c,.int .i64 f.kept] 134)).frozen? ⟨wr.heap.size,0,none⟩ = false /\ (wr.alloc (.cells #[.slice a f.all.length c,.int .i64 f.kept] 134)).frozen? ⟨wr.heap.size,1,none⟩ = false):=⟨by go_cell,by go_cell,by simp,by simp⟩
    have L1':wr.heap.size < (wr.alloc (.cells #[.slice a f.all.length c,.int .i64 f.kept] 134)).heap.size:=by simp
    generalize World.alloc wr _ = w1 at *
    have X1:=hid X1'
    have L1:=L1'
    have H1:=hid (HD.out.below B1.out)
    have TC1:Hid (w1.heap[w.heap.size]? = some (.cells #[.slice ta tn tcp] 24 (0,0)) /\ dV w1 (.slice ta tn tcp) T /\ (T = [] \/ ∀ b,(Value.slice ta tn tcp).ownBlock = some b -> ¬ (bB db mb tb b \/ w.heap.size <= b))):=hid ⟨(B1.out.block _ ltc).trans TC.out.1,TC.out.2.1.below B1.out,TC.out.2.2⟩
    have NF:Hid (¬ wr.heap.size = w.heap.size):=hid (by omega)
    have FI1:Hid (dL w1 db mb tb (.agg #[.slice a f.all.length c,.int .i64 f.kept]) f):=hid (FI.out.below B1.out)
    have HB0:Hid (Bytes w1 (.slice a f.all.length c) f.all):=hid (by obtain ⟨a2,c2,e1,e2,_⟩:=FI1.out;cases e1;exact e2)
    obtain ⟨a1,hB1,hO1,hcut1⟩:=HB0.out.aBj Tryz.u8s f.kept (Nat.le_of_lt hgt)
    obtain ⟨v2,hB2,hO2,hcut2⟩:=HB0.out.aE2 Tryz.u8s f.kept (Nat.le_of_lt hgt)
    have HB1:=hid hB1
    have HB2:=hid hB2
    have HO1:=hid hO1
    have HTC:Hid (∀ y,(Value.slice ta tn tcp) ≠ .int .u8 y):=hid (fun y e=>by cases e)
    have NB1:Hid (∀ g,(Value.slice a1 f.kept f.kept).ownBlock = some g -> ¬ g = w.heap.size):=hid fun g hg=>by rw [hO1] at hg;exact HB0.out.aEe hg HFN.out TC1.out.1 HTC.out
    have NB2:Hid (∀ g,v2.ownBlock = some g -> ¬ g = w.heap.size):=hid fun g hg=>by rw [hO2] at hg;exact HB0.out.aEe hg HFN.out TC1.out.1 HTC.out
    have HTB:Hid (th.1 < 65536 /\ th.2 < 4294967296):=hid (by
     rw [<- HTH.out]
     cases T with
     | nil=>exact ⟨by decide,by decide⟩
     | cons x r=>exact TC1.out.2.1.2 x List.mem_cons_self)
    have HTN:Hid ((∀ c ∈ (cR (f.all.drop f.kept) th),c < 256) /\ (cR (f.all.drop f.kept) th).length <= 2097152 /\ (f.all.take f.kept).length + (cR (f.all.drop f.kept) th).length <= 2097152):=hid (by
     have h1:=tL (f.all.drop f.kept) th
     rw [List.length_drop] at h1
     have:=HFL.out
     exact ⟨aIz (fun c hc=>HB0.out.lt c (List.mem_of_mem_drop hc)) _,by omega,by rw [List.length_take];omega⟩)
    obtain ⟨av2,m2,cv2,ev2⟩:∃ a n c,v2 = Value.slice a n c:=by obtain ⟨a,c,e,_⟩:=hB2.shape;exact ⟨a,_,c,e⟩
    subst ev2
    have hkp:(f.kept:Int) <= 2097152:=by omega
    have x0:=X1.out.1
    have x1:=X1.out.2.1
    have HCUT:=hid (And.intro hcut1 hcut2)
    clear hB1 hB2 hO1 hO2 X1' L1' hrun hnc c0
    refine aN [0,1,0,4,0,16,63,0,128,0,512,1920,0,4096,16256,32767,65535,131071] 24576 (fun w'=>w'.cell? ⟨wr.heap.size,0,none⟩ = some (.slice a f.all.length c) /\ w'.cell? ⟨wr.heap.size,1,none⟩ = some (.int .i64 f.kept)) (by kernel_rfl) ?_
    refine aB [0,1,2,3,4,5,6,7,8,9,10,11,12] (by kernel_rfl) (L:=bm 18 8191) (by kernel_rfl) (f':=5) rfl (fun _ _ _ _ h=>h) (fun w o h=>((aP.cell _ _).and (aP.cell _ _)).alloc h o) (.inr ⟨x0,x1⟩) ?_
    simp only [sF,sL]
    iterate 13 (first | (refine aQ _ (by rfl) (fun w' hs=>by obtain ⟨y0,y1⟩:=hs;go_simp;try with_reducible rfl) rfl ?_;simp only [Act.put,sA]) | (refine aD _ (by rfl) (fun w'=>by go_simp;try with_reducible rfl) ?_;simp only [Act.put,sA]))
    refine aE ?_
    refine aI 13 (by kernel_rfl) (L:=bm 18 16383) (by kernel_rfl) ?_
    simp only [sL]
    go_wp2_with fail;refine (aFW w.heap.size (fun b=>bB db mb tb b \/ w.heap.size <= b) (.inr (Nat.le_refl _)) (.slice ta tn tcp) T _ (by exact TC1.out.1) (by exact TC1.out.2.1) (by exact TC1.out.2.2)).mono ?_;rintro e u3 ⟨rfl,htear3,hk3⟩;rw [HTH.out];have K3:Hid (Kept w1 u3 (fun k=>k = w.heap.size)):=hid (by first | exact hk3 | exact (Kept.drew w1 _).trans hk3);have TE3:=hid htear3;have L3:wr.heap.size < u3.heap.size:=Nat.lt_of_lt_of_le L1 K3.out.size;have X3:Hid (u3.cell? ⟨wr.heap.size,0,none⟩ = some (.slice a f.all.length c) /\ u3.cell? ⟨wr.heap.size,1,none⟩ = some (.int .i64 f.kept) /\ u3.frozen? ⟨wr.heap.size,0,none⟩ = false /\ u3.frozen? ⟨wr.heap.size,1,none⟩ = false):=hid ⟨K3.out.cell X1.out.1 NF.out,K3.out.cell X1.out.2.1 NF.out,(K3.out.frozen (a:=⟨wr.heap.size,0,none⟩) L1 NF.out).trans X1.out.2.2.1,(K3.out.frozen (a:=⟨wr.heap.size,1,none⟩) L1 NF.out).trans X1.out.2.2.2⟩;clear htear3 hk3 x0 x1;go_wp2_with fail
    refine aF (fun _=>⟨X3.out.1,X3.out.2.1⟩) ?_
    refine aI 14 (by kernel_rfl) (L:=bm 18 32767) (by kernel_rfl) ?_
    simp only [sL]
    go_wp2_with fail;refine (aIA _ (f.all.drop f.kept) th _ (HB2.out.lS K3.out (fun _ g hg e=>NB2.out g hg e)) HTB.out.1 HTB.out.2).mono ?_;rintro e u4 ⟨v4,rfl,hown4,hb4⟩;obtain ⟨a4,n4,c4,rfl⟩:=aKh hown4;have B4:Hid (Below u3.heap.size u3 u4):=hid (by first | exact hb4 | exact ((Below.refl _ _).drew).trans hb4);have HB4:Hid (Bytes u4 (.slice a4 n4 c4) (cR (f.all.drop f.kept) th)):=hid (Bytes.eE hown4 HTN.out.1 HTN.out.2.1);have L4:wr.heap.size < u4.heap.size:=Nat.lt_of_lt_of_le L3 B4.out.size;have X4:Hid (u4.cell? ⟨wr.heap.size,0,none⟩ = some (.slice a f.all.length c) /\ u4.cell? ⟨wr.heap.size,1,none⟩ = some (.int .i64 f.kept) /\ u4.frozen? ⟨wr.heap.size,0,none⟩ = false /\ u4.frozen? ⟨wr.heap.size,1,none⟩ = false):=hid ⟨Below.at B4.out X3.out.1 L3,Below.at B4.out X3.out.2.1 L3,by rw [B4.out.frozen (p:=⟨wr.heap.size,0,none⟩) L3];exact X3.out.2.2.1,by rw [B4.out.frozen (p:=⟨wr.heap.size,1,none⟩) L3];exact X3.out.2.2.2⟩;clear hown4 hb4;go_wp2_with fail
    refine aF (fun _=>⟨X4.out.1,X4.out.2.1⟩) ?_
    refine aI 15 (by kernel_rfl) (L:=bm 18 65535) (by kernel_rfl) ?_
    simp only [sL]
    refine lZ Tryz.u8s rfl _ _ rfl a1 f.kept (.slice a4 n4 c4) (f.all.take f.kept) (cR (f.all.drop f.kept) th) rfl rfl ((HB1.out.lS K3.out (fun _ g hg e=>NB1.out g hg e)).below B4.out) HB4.out HTN.out.2.2 ?_;intro a5 c5 w5 hB5 hb5 ho5;have HB5:=hid hB5;have B5:=hid hb5;have HO5:=hid ho5;have L5:wr.heap.size < w5.heap.size:=Nat.lt_of_lt_of_le L4 B5.out.size;have X5:Hid (w5.cell? ⟨wr.heap.size,0,none⟩ = some (.slice a f.all.length c) /\ w5.cell? ⟨wr.heap.size,1,none⟩ = some (.int .i64 f.kept) /\ w5.frozen? ⟨wr.heap.size,0,none⟩ = false /\ w5.frozen? ⟨wr.heap.size,1,none⟩ = false):=hid ⟨Below.at B5.out X4.out.1 L4,Below.at B5.out X4.out.2.1 L4,by rw [B5.out.frozen (p:=⟨wr.heap.size,0,none⟩) L4];exact X4.out.2.2.1,by rw [B5.out.frozen (p:=⟨wr.heap.size,1,none⟩) L4];exact X4.out.2.2.2⟩;generalize hn5:(f.all.take f.kept).length + (cR (f.all.drop f.kept) th).length = n5 at HB5 HO5 ⊢;have HN5:=hid hn5;clear hB5 hb5 ho5 hn5;go_wp2_with fail
    refine aF nofun ?_
    refine aB [16] (by kernel_rfl) (L:=bm 18 131071) (by kernel_rfl) (f':=1) rfl (fun _ _ _ _ h=>h) (fun w o h=>((aP.cell _ _).and (aP.cell _ _)).alloc h o) (.inl (by kernel_rfl)) ?_
    simp only [sF,sL]
    iterate 1 (refine aD _ (by rfl) (fun w'=>by go_simp;try with_reducible rfl) ?_;simp only [Act.put,sA])
    refine aE ?_
    refine aI 17 (by kernel_rfl) (L:=bm 18 262143) (by kernel_rfl) ?_
    simp only [sL]
    have x50:=X5.out.1;have x51:=X5.out.2.1;have f50:=X5.out.2.2.1;have f51:=X5.out.2.2.2;go_wp2_with fail
    refine aF nofun ?_
    refine aT (by kernel_rfl) ?_
    go_wp2_with fail
    generalize hw6:World.setCell (World.setCell w5 _ _) _ _ = w6
    have X6:Hid (w6.cell? ⟨wr.heap.size,0,none⟩ = some (.slice a5 n5 c5) /\ w6.cell? ⟨wr.heap.size,1,none⟩ = some (.int .i64 n5) /\ w6.frozen? ⟨wr.heap.size,0,none⟩ = false /\ w6.frozen? ⟨wr.heap.size,1,none⟩ = false):=hid (by
     subst hw6
     refine ⟨?_,World.cell?_setCell_same _ _ _ (by rw [World.cell?_setCell_other _ _ _ _ (by simp)];exact X5.out.2.1),by rw [World.frozen?_setCell,World.frozen?_setCell];exact X5.out.2.2.1,by rw [World.frozen?_setCell,World.frozen?_setCell];exact X5.out.2.2.2⟩
     rw [World.cell?_setCell_other _ _ _ _ (by simp)]
     exact World.cell?_setCell_same _ _ _ X5.out.1)
    have K6:Hid (Kept w5 w6 (fun k=>k = wr.heap.size)):=hid (by subst hw6;exact (Kept.setCell w5 ⟨wr.heap.size,0,none⟩ _).trans (Kept.setCell _ ⟨wr.heap.size,1,none⟩ _))
    have NFO:Hid (¬ bB db mb tb wr.heap.size):=hid (fun e=>by have:=HLT3.out _ e;omega)
    have S0:Hid (∀ x,w5.cell? ⟨wr.heap.size,0,none⟩ ≠ some (.int .u8 x)):=hid (fun x e=>by rw [X5.out.1] at e;cases e)
    have S1:Hid (∀ y x,(w5.setCell ⟨wr.heap.size,0,none⟩ y).cell? ⟨wr.heap.size,1,none⟩ ≠ some (.int .u8 x)):=hid (fun y x e=>by rw [World.cell?_setCell_other _ _ _ _ (by simp),X5.out.2.1] at e;cases e)
    have D5:Hid (aG w5 db mb tb { D with down:=true,armed:=-1,files:=A ++ f :: BQ }):=hid (((H1.out.aJe TC1.out.1 HTC.out K3.out (fun e=>NW.out e)).below B4.out).below B5.out)
    have D6:Hid (aG w6 db mb tb { D with down:=true,armed:=-1,files:=A ++ f :: BQ }):=hid (by subst hw6;exact (D5.out.setOther _ NFO.out S0.out).setOther _ NFO.out (S1.out _))
    have FI6:Hid (dL w6 db mb tb (.agg #[.slice a5 n5 c5,.int .i64 n5]) ⟨f.name,(f.all.take f.kept ++ cR (f.all.drop f.kept) th),n5⟩):=hid (by
     have hlen:(f.all.take f.kept ++ cR (f.all.drop f.kept) th).length = n5:=by rw [List.length_append];exact HN5.out
     have hb6:Bytes w6 (.slice a5 n5 c5) (f.all.take f.kept ++ cR (f.all.drop f.kept) th):=by subst hw6;exact (HB5.out.nL _ S0.out).nL _ (S1.out _)
     refine ⟨a5,c5,by simp only [hlen],by simp only [hlen];exact hb6,?_⟩
     rcases HO5.out with ⟨h1,h2⟩ | h2
     ·obtain ⟨a2,c2,e1,_,e3⟩:=FI1.out
      cases e1
      rcases e3 with e3 | ⟨g,hg,hn⟩
      ·exact absurd e3 HFN.out
      ·refine .inr ⟨g,?_,hn⟩
       simp only [hlen]
       rw [h2,HO1.out];exact hg
     ·refine .inr ⟨_,by simp only [hlen];exact h2,?_⟩
      have hx:∀ k,bB db mb tb k -> u4.heap.size ≠ k:=fun k hk e=>by have:=HLT3.out _ hk;omega
      exact ⟨hx _ (.inl rfl),hx _ (.inr (.inl rfl)),hx _ (.inr (.inr rfl))⟩)
    have XR:Hid (w6.cell? ⟨db,0,none⟩ = some (.map (some mb)) /\ w6.cell? ⟨wr.heap.size,0,none⟩ = some (.slice a5 n5 c5) /\ w6.cell? ⟨wr.heap.size,1,none⟩ = some (.int .i64 n5)):=hid ⟨D6.out.c0,X6.out.1,X6.out.2.1⟩
    obtain ⟨vals,hmap,hfs⟩:=D6.out.fs
    have MR:Hid (gM w6 mb vals (A ++ f :: BQ)):=hid hmap
    have FS:=hid hfs
    have hcutC:=HCUT.out
    clear hw6 hmap hfs x50 x51 f50 f51 hcutC
    refine aN [0,1,3,7,0,0,63] 0 (fun w'=>w'.cell? ⟨db,0,none⟩ = some (.map (some mb)) /\ w'.cell? ⟨wr.heap.size,0,none⟩ = some (.slice a5 n5 c5) /\ w'.cell? ⟨wr.heap.size,1,none⟩ = some (.int .i64 n5)) (by kernel_rfl) ?_
    refine aB [0,1,2,3,4,5] (by kernel_rfl) (L:=bm 7 63) (by kernel_rfl) (f':=1) rfl (fun _ _ _ _ h=>h) (fun w o h=>(((aP.cell _ _).and ((aP.cell _ _).and (aP.cell _ _))).alloc h o)) (.inr XR.out) ?_
    simp only [sF,sL]
    iterate 6 (first | (refine aQ _ (by rfl) (fun w' hs=>by obtain ⟨y0,y1,y2⟩:=hs;go_simp;try with_reducible rfl) rfl ?_;simp only [Act.put,sA]) | (refine aD _ (by rfl) (fun w'=>by go_simp;try with_reducible rfl) ?_;simp only [Act.put,sA]))
    refine aE ?_
    refine aI 6 (by kernel_rfl) (L:=bm 7 127) (by kernel_rfl) ?_
    simp only [sL]
    refine wpList_mapUpdate_in _ rfl _ _ _ 47 rfl 9 134 law Tryz.underlying47 gJ mb _ _ rfl (by first | exact MR.out | exact World.ownsMap.drew MR.out) (by have:=HLN.out;unfold maxLen;omega) _ _ _ rfl rfl HKEY.out (.held (.agg #[.slice a5 n5 c5,.int .i64 n5])) [] (kH _ _ _ _) ?_;intro w7 hown7 hturn7;have O7:=hid hown7;have T7:Hid (w6.drew.mapTurned w7 mb):=hid hturn7;clear hown7 hturn7;go_wp2_with fail
    refine aF nofun ?_
    refine aT (by kernel_rfl) ?_
    have DR:Below w6.heap.size w6 w6.drew:=(Below.refl _ _).drew
    have L6:wr.heap.size < w6.heap.size:=Nat.lt_of_lt_of_le L5 K6.out.size
    have D7:Hid (aG w7 db mb tb { D with down:=true,armed:=-1,files:=A ++ ⟨f.name,(f.all.take f.kept ++ cR (f.all.drop f.kept) th),n5⟩ :: BQ }):=hid (by
     have hp:aG w7 db mb tb { D with down:=true,armed:=-1,files:=bL ⟨f.name,(f.all.take f.kept ++ cR (f.all.drop f.kept) th),n5⟩ (A ++ f :: BQ) }:=aG.put (f:=⟨f.name,(f.all.take f.kept ++ cR (f.all.drop f.kept) th),n5⟩) (v:=.agg #[.slice a5 n5 c5,.int .i64 n5]) (D6.out.below DR) (fun g hg=>(FS.out g hg).below DR) O7.out T7.out (FI6.out.below DR)
     rw [aBL (f':=⟨f.name,(f.all.take f.kept ++ cR (f.all.drop f.kept) th),n5⟩) HRS.out rfl] at hp
     exact hp)
    have NFM:Hid (¬ wr.heap.size = mb):=hid (fun e=>NFO.out (.inr (.inl e)))
    have x70:w7.cell? ⟨wr.heap.size,0,none⟩ = some (.slice a5 n5 c5):=(Kept.qS T7.out).cell X6.out.1 NFM.out
    have HN7:Hid ((f.all.take f.kept ++ cR (f.all.drop f.kept) th).length = n5):=hid (by rw [List.length_append];exact HN5.out)
    have KR7:Hid (Kept wr w7 (fun k=>bB db mb tb k \/ k = w.heap.size)):=hid (by
     refine Kept.trans (b:=w6) ?_ (((Kept.drew w6 _).trans (Kept.gF T7.out)).mono fun k _ h=>.inl h)
     refine Kept.iG (b:=w5) ?_ K6.out (Nat.le_refl _)
     exact (((Kept.aJ B1.out (S:=fun k=>k = w.heap.size) (fun k h1 h2=>by omega)).trans K3.out).trans ((Kept.aJ B4.out (fun k h1 h2=>by omega)).trans (Kept.aJ B5.out (fun k h1 h2=>by omega)))).mono fun k _ h=>.inr h)
    obtain ⟨t3,ht31,ht32,ht33⟩:=TE3.out
    have LT3:w.heap.size < u3.heap.size:=lt_of_block ht31
    have TE7:Hid (w7.heap[w.heap.size]? = some (.cells #[t3] 24 (0,0)) /\ (∃ a n c,t3 = .slice a n c) /\ dV w7 t3 T.tail /\ (T.tail = [] \/ ∀ b,t3.ownBlock = some b -> ¬ (bB db mb tb b \/ w.heap.size <= b))):=hid (by
     have k45:Kept u3 w5 (fun _=>False):=(Kept.aJ B4.out (fun k h1 h2=>by omega)).trans (Kept.aJ B5.out (fun k h1 h2=>by omega))
     have k36:Kept u3 w6 (fun k=>k = wr.heap.size):=k45.andThen K6.out (fun k _ h=>h.resolve_left id)
     have k67:Kept w6 w7 (bB db mb tb):=(Kept.drew w6 _).trans (Kept.gF T7.out)
     have k37:Kept u3 w7 (fun k=>k = wr.heap.size \/ bB db mb tb k):=k36.andThen k67 (fun k _ h=>h)
     refine ⟨(k37.block _ LT3 (fun h=>h.elim (fun e=>NF.out e.symm) (fun e=>NW.out e))).trans ht31,?_,ht32.kept k37 (ht33.imp id fun h b hb e=>h b hb (e.elim (fun e=>.inr (by omega)) (fun e=>.inl e))),ht33⟩
     obtain ⟨a',c',e,_⟩:=ht32.1.shape
     exact ⟨_,_,_,e⟩)
    have c07:=D7.out.c0
    have ldb7:=D7.out.lt
    clear ht31 ht32 ht33
    by_cases he:(f.all.take f.kept ++ cR (f.all.drop f.kept) th) = []
    ·have hb0:((n5:Int) == 0) = true:=by have:=HN7.out;rw [he] at this;simp at this;simp [<- this]
     have HC1:Hid (dB f T = []):=hid (by rw [HCR1.out,if_pos he])
     obtain ⟨vals7,hmap,hfs⟩:=D7.out.fs
     have MR7:=hid hmap
     have FS7:=hid hfs
     clear hmap hfs he
     go_wp2_with (at_delete;refine wpList_delete_own _ rfl _ _ 47 9 rfl 134 law Tryz.underlying47 gJ mb _ _ rfl MR7.out _ _ rfl HKEY.out ?_;intro w8 hown8 hturn8;have O8:=hid hown8;have T8:=hid hturn8;clear hown8 hturn8 x70 c07)
     go_roundw
     case rel =>
      have K8:Kept w7 w8 (bB db mb tb):=Kept.gF T8.out
      have KR:Kept wr w8 (fun k=>bB db mb tb k \/ k = w.heap.size):=KR7.out.trans (K8.mono fun k _ h=>.inl h)
      have hd:=aG.del (m:=f.name) D7.out FS7.out O8.out T8.out
      rw [tA (f:=⟨f.name,(f.all.take f.kept ++ cR (f.all.drop f.kept) th),n5⟩) (by obtain ⟨_,hm,_⟩:=D7.out.fs;exact hm.rising)] at hd
      refine ⟨k + 1,by omega,by go_num,⟨by rw [HCR.out.1,HC1.out,<- HBQ.out,List.append_nil];exact hd,⟨t3,(K8.block _ (lt_of_block TE7.out.1) (fun e=>NW.out e)).trans TE7.out.1,TE7.out.2.1,?_,?_⟩,NMR.out.kept KR (fun b hb e=>HNO.out b hb e),KK.out.andThen KR fun k hk h=>h.elim id (fun h=>h.elim id (fun h=>by omega))⟩⟩
      ·rw [HCR.out.2,HT1.out]
       exact TE7.out.2.2.1.kept K8 (TE7.out.2.2.2.imp id fun h b hb e=>h b hb (.inl e))
      ·rw [HCR.out.2,HT1.out]
       exact TE7.out.2.2.2
     case measure=>simp [intOf];omega
    ·have hb0:((n5:Int) == 0) = false:=by
      have:=HN7.out
      have h0:n5 ≠ 0:=fun e=>he (List.eq_nil_of_length_eq_zero (this.trans e))
      simpa using h0
     have HC1:Hid (dB f T = [⟨f.name,(f.all.take f.kept ++ cR (f.all.drop f.kept) th),(f.all.take f.kept ++ cR (f.all.drop f.kept) th).length⟩]):=hid (by rw [HCR1.out,if_neg he])
     clear he
     go_wp2_with fail
     go_roundw
     case rel =>
      refine ⟨k + 1,by omega,by go_num,⟨by rw [HCR.out.1,HC1.out,HN7.out,<- HBQ.out,List.append_assoc];exact D7.out,⟨t3,TE7.out.1,TE7.out.2.1,?_,?_⟩,NMR.out.kept KR7.out (fun b hb e=>HNO.out b hb e),KK.out.andThen KR7.out fun k hk h=>h.elim id (fun h=>h.elim id (fun h=>by omega))⟩⟩
      ·rw [HCR.out.2,HT1.out]
       exact TE7.out.2.2.1
      ·rw [HCR.out.2,HT1.out]
       exact TE7.out.2.2.2
     case measure=>simp [intOf];omega
   ·have hgt':¬ (f.kept:Int) < (f.all.length:Int):=by omega
    have B1:Hid (Below wr.heap.size wr (wr.alloc (.cells #[.slice a f.all.length c,.int .i64 f.kept] 134))):=hid ((Below.refl _ _).alloc (Nat.le_refl _) _)
    have H1:=hid (HD.out.below B1.out)
    have KR1:Hid (Kept wr (wr.alloc (.cells #[.slice a f.all.length c,.int .i64 f.kept] 134)) (fun k=>bB db mb tb k \/ k = w.heap.size)):=hid (Kept.aJ B1.out fun k h1 h2=>by omega)
    have HT1:Hid (lV f T = T):=hid (if_neg hgt)
    by_cases he:f.all = []
    ·have hb0:((f.all.length:Int) == 0) = true:=by simp [he]
     have HC1:Hid (dB f T = []):=hid (by unfold dB;rw [if_neg hgt,if_pos he])
     obtain ⟨vals,hmap,hfs⟩:=H1.out.fs
     have MR:=hid hmap
     have FS:=hid hfs
     clear hmap hfs he
     go_wp2_with (at_delete;refine wpList_delete_own _ rfl _ _ 47 9 rfl 134 law Tryz.underlying47 gJ mb _ _ rfl MR.out _ _ rfl HKEY.out ?_;intro w5 hown5 hturn5;have O5:=hid hown5;have T5:=hid hturn5;clear hown5 hturn5 c0 hnc hrun)
     go_roundw
     case rel =>
      have KR:Kept wr w5 (fun k=>bB db mb tb k \/ k = w.heap.size):=KR1.out.trans ((Kept.gF T5.out).mono fun k _ h=>.inl h)
      have hd:=aG.del (m:=f.name) H1.out FS.out O5.out T5.out
      rw [tA HRS.out] at hd
      refine ⟨k + 1,by omega,by go_num,⟨by rw [HCR.out.1,HC1.out,<- HBQ.out,List.append_nil];exact hd,⟨_,(Kept.gF T5.out).block _ (Nat.lt_of_lt_of_le ltc B1.out.size) (fun e=>NW.out e) |>.trans ((B1.out.block _ ltc).trans TC.out.1),⟨_,_,_,rfl⟩,?_,?_⟩,NMR.out.kept KR (fun b hb e=>HNO.out b hb e),KK.out.andThen KR fun k hk h=>h.elim id (fun h=>h.elim id (fun h=>by omega))⟩⟩
      ·rw [HCR.out.2,HT1.out]
       exact TC.out.2.1.kept KR (TC.out.2.2.imp id fun h b hb e=>h b hb (e.imp id (fun e=>by omega)))
      ·rw [HCR.out.2,HT1.out]
       exact TC.out.2.2
     case measure=>simp [intOf];omega
    ·have hb0:((f.all.length:Int) == 0) = false:=by simpa using he
     have HC1:Hid (dB f T = [f]):=hid (by unfold dB;rw [if_neg hgt,if_neg he])
     clear he
     go_wp2_with fail
     go_roundw
     case rel =>
      refine ⟨k + 1,by omega,by go_num,⟨by rw [HCR.out.1,HC1.out,<- HBQ.out,List.append_assoc];exact H1.out,⟨_,(B1.out.block _ ltc).trans TC.out.1,⟨_,_,_,rfl⟩,?_,?_⟩,NMR.out.kept KR1.out (fun b hb e=>HNO.out b hb e),KK.out.andThen KR1.out fun k hk h=>h.elim id (fun h=>h.elim id (fun h=>by omega))⟩⟩
      ·rw [HCR.out.2,HT1.out]
       exact TC.out.2.1.kept KR1.out (TC.out.2.2.imp id fun h b hb e=>h b hb (e.imp id (fun e=>by omega)))
      ·rw [HCR.out.2,HT1.out]
       exact TC.out.2.2
     case measure=>simp [intOf];omega
  ·obtain rfl:k = D.files.length:=by omega
   go_wp2_with fail
   go_ret
   have hd:=I.out.dsk
   rw [List.take_length,List.drop_length,List.append_nil] at hd
   exact ⟨rfl,hd,I.out.kept⟩
end Go.Proofs.YtjdglpcnkiioeaaGreat
namespace Go.Proofs.YtjdglpcnkiioeaaGreat
open Go.RowKit Go.Maps Go.Proofs.Own

def lQ (d:Nat):Nat:=if d < 10 then 48 + d else 87 + d
def hexs:Nat -> Nat -> List Nat
 | 0,_=>[]
 | k + 1,n=>hexs k (n / 16) ++ [lQ (n % 16)]
def rE (n:Nat):List Nat:=if n < 1 \/ 1152921504606846976 <= n then [] else 76 :: hexs 15 n
def aH (n:Nat):ByteArray:=fM (rE n)
def pP (c:Nat):Option Nat:=if 48 <= c /\ c <= 57 then some (c - 48) else if 97 <= c /\ c <= 102 then some (c - 87) else none
def hexF:List Nat -> Nat -> Option Nat
 | [],n=>some n
 | c :: r,n=>match pP c with
  | none=>none
  | some d=>hexF r (n * 16 + d)
def bS (l:List Nat):Nat:=if l.length = 16 /\ l.getD 0 0 = 76 then (hexF l.tail 0).getD 0 else 0
theorem aGc {d:Nat} (h:d < 16):pP (lQ d) = some d:=by
 unfold pP lQ
 by_cases h1:d < 10
 ·rw [if_pos h1,if_pos (by omega),show 48 + d - 48 = d by omega]
 ·rw [if_neg h1,if_neg (by omega),if_pos (by omega),show 87 + d - 87 = d by omega]
theorem aJd {d:Nat} (h:d < 16):lQ d < 256:=by unfold lQ;split <;> omega
theorem aGb {a b:Nat} (h:a < b):lQ a < lQ b:=by
 unfold lQ
 split <;> split <;> omega
theorem kM:∀ (k n:Nat),(hexs k n).length = k
 | 0,_=>rfl
 | k + 1,n=>by simp [hexs,kM k]
theorem aBr:∀ (k n:Nat),∀ c ∈ hexs k n,c < 256
 | 0,_,c,h=>by cases h
 | k + 1,n,c,h=>by
  rcases List.mem_append.1 h with h | h
  ·exact aBr k _ c h
  ·obtain rfl:=List.mem_singleton.1 h
   exact aJd (Nat.mod_lt _ (by decide))
theorem tF:∀ (l m:List Nat) (n:Nat),hexF (l ++ m) n = (hexF l n).bind (hexF m)
 | [],m,n=>rfl
 | c :: r,m,n=>by
  show (match pP c with | none=>none | some d=>hexF (r ++ m) (n * 16 + d)) = (match pP c with | none=>none | some d=>hexF r (n * 16 + d)).bind (hexF m)
  cases pP c with
  | none=>rfl
  | some d=>exact tF r m _
theorem aAH:∀ (k n s:Nat),n < 16 ^ k -> hexF (hexs k n) s = some (s * 16 ^ k + n)
 | 0,n,s,h=>by
  have:n = 0:=by omega
  subst this
  simp [hexs,hexF]
 | k + 1,n,s,h=>by
  have hq:n / 16 < 16 ^ k:=by rw [Nat.pow_succ] at h;omega
  show hexF (hexs k (n / 16) ++ [lQ (n % 16)]) s = _
  rw [tF,aAH k _ s hq]
  show (match pP (lQ (n % 16)) with | none=>none | some d=>hexF [] ((s * 16 ^ k + n / 16) * 16 + d)) = _
  rw [aGc (Nat.mod_lt _ (by decide))]
  show some _ = some _
  rw [Nat.pow_succ,<- Nat.mul_assoc]
  congr 1
  omega
theorem nF {n:Nat} (h1:1 <= n) (h2:n < 1152921504606846976):rE n = 76 :: hexs 15 n:=by
 unfold rE
 rw [if_neg (by omega)]
theorem tI {n:Nat} (h1:1 <= n) (h2:n < 1152921504606846976):(rE n).length = 16:=by
 rw [nF h1 h2,List.length_cons,kM]
theorem yR (n:Nat):∀ c ∈ rE n,c < 256:=by
 intro c hc
 unfold rE at hc
 split at hc
 ·cases hc
 ·rcases List.mem_cons.1 hc with rfl | hc
  ·decide
  ·exact aBr _ _ c hc
theorem aEo {n:Nat} (h1:1 <= n) (h2:n < 1152921504606846976):(aH n).size = 16:=by
 unfold aH
 rw [lG,tI h1 h2]
theorem eM (n:Nat):(aH n).size <= 16:=by
 by_cases h:n < 1 \/ 1152921504606846976 <= n
 ·unfold aH rE
  rw [if_pos h]
  exact Nat.zero_le _
 ·rw [aEo (by omega) (by omega)]
  exact Nat.le_refl _
theorem aDV {n:Nat} (h1:1 <= n) (h2:n < 1152921504606846976):bS (rE n) = n:=by
 unfold bS
 rw [if_pos ⟨tI h1 h2,by rw [nF h1 h2];rfl⟩,nF h1 h2]
 show (hexF (hexs 15 n) 0).getD 0 = n
 rw [aAH 15 n 0 (by have : (16 : Nat) ^ 15 = 1152921504606846976 := by decide
                    omega)]
 simp
theorem kK {n:Nat} (h1:1 <= n) (h2:n < 1152921504606846976):bS (bF (aH n)) = n:=by
 unfold aH
 rw [gT (yR n),aDV h1 h2]
def natsLt:List Nat -> List Nat -> Bool
 | [],[]=>false
 | [],_ :: _=>true
 | _ :: _,[]=>false
 | a :: r,b :: s=>decide (a < b) || (decide (a = b) && natsLt r s)
theorem xZ:∀ {l m:List Nat},(∀ c ∈ l,c < 256) -> (∀ c ∈ m,c < 256) -> bytesBefore (l.map UInt8.ofNat) (m.map UInt8.ofNat) = natsLt l m
 | [],[],_,_=>rfl
 | [],_ :: _,_,_=>rfl
 | _ :: _,[],_,_=>rfl
 | a :: r,b :: s,hl,hm=>by
  have ha:=hl a (List.mem_cons_self ..)
  have hb:=hm b (List.mem_cons_self ..)
  have ih:=xZ (l:=r) (m:=s) (fun c hc=>hl c (List.mem_cons_of_mem _ hc)) (fun c hc=>hm c (List.mem_cons_of_mem _ hc))
  show (decide (UInt8.ofNat a < UInt8.ofNat b) || ((UInt8.ofNat a == UInt8.ofNat b) && bytesBefore (r.map UInt8.ofNat) (s.map UInt8.ofNat))) = (decide (a < b) || (decide (a = b) && natsLt r s))
  have e1:(UInt8.ofNat a).toNat = a:=by simp;omega
  have e2:(UInt8.ofNat b).toNat = b:=by simp;omega
  have h1:decide (UInt8.ofNat a < UInt8.ofNat b) = decide (a < b):=by
   rw [decide_eq_decide,UInt8.lt_iff_toNat_lt,e1,e2]
  have h2:(UInt8.ofNat a == UInt8.ofNat b) = decide (a = b):=by
   rw [Bool.eq_iff_iff,beq_iff_eq,decide_eq_true_eq,<- UInt8.toNat_inj,e1,e2]
  rw [ih,h1,h2]
theorem aEc (p:List Nat) (l m:List Nat):natsLt (p ++ l) (p ++ m) = natsLt l m:=by
 induction p with
 | nil=>rfl
 | cons a r ih=>simp [natsLt,ih]
theorem yS:∀ {l m:List Nat} (x y:List Nat),l.length = m.length -> natsLt l m = true -> natsLt (l ++ x) (m ++ y) = true
 | [],[],_,_,_,h=>by cases h
 | a :: r,b :: s,x,y,hl,h=>by
  simp only [natsLt,List.cons_append,Bool.or_eq_true,Bool.and_eq_true,decide_eq_true_eq] at h ⊢
  rcases h with h | ⟨h1,h2⟩
  ·exact .inl h
  ·exact .inr ⟨h1,yS x y (by simpa using hl) h2⟩
 | [],_ :: _,_,_,hl,_=>by simp at hl
 | _ :: _,[],_,_,hl,_=>by simp at hl
theorem aAJ:∀ (k a b:Nat),a < b -> b < 16 ^ k -> natsLt (hexs k a) (hexs k b) = true
 | 0,a,b,h,hb=>by simp at hb;omega
 | k + 1,a,b,h,hb=>by
  show natsLt (hexs k (a / 16) ++ [lQ (a % 16)]) (hexs k (b / 16) ++ [lQ (b % 16)]) = true
  by_cases he:a / 16 = b / 16
  ·rw [he,aEc]
   have:=aGb (a:=a % 16) (b:=b % 16) (by omega)
   simp [natsLt,this]
  ·exact yS _ _ (by rw [kM,kM]) (aAJ k _ _ (by omega) (by rw [Nat.pow_succ] at hb;omega))
theorem aEb {a b:Nat} (h:a < b) (h1:1 <= a) (h2:b < 1152921504606846976):eW (aH a) (aH b) = true:=by
 have e:∀ n,(aH n).data.toList = (rE n).map UInt8.ofNat:=fun n=>rfl
 unfold eW
 rw [e,e,xZ (yR a) (yR b),nF h1 (by omega),nF (by omega) h2]
 have := aAJ 15 a b h (by have : (16 : Nat) ^ 15 = 1152921504606846976 := by decide
                          omega)
 simp [natsLt,this]

theorem aEq (q:List Nat) (h:3 <= q.length):∃ A x y z,q = A ++ [x,y,z] /\ A.length + 3 = q.length:=by
 have h1:(q.drop (q.length - 3)).length = 3:=by rw [List.length_drop];omega
 match e:q.drop (q.length - 3),h1 with
 | [x,y,z],_ =>
  refine ⟨q.take (q.length - 3),x,y,z,?_,by rw [List.length_take];omega⟩
  rw [<- e,List.take_append_drop]
theorem vQ (A L:List Nat) (i v:Nat):uC (A ++ L) (A.length + i) v = A ++ uC L i v:=by
 unfold uC
 rw [yJ,List.set_append_right (h:=by omega),Nat.add_sub_cancel_left]
theorem aFr (A:List Nat) (x y z t:Nat):tornTo (A ++ [x,y,z]) t 3 = A ++ [x ^^^ (t / 2 ^ 16 % 256),y ^^^ (t / 2 ^ 8 % 256),z ^^^ (t / 2 ^ 0 % 256)]:=by
 have hl:(A ++ [x,y,z]).length - 3 = A.length:=by simp
 show uC (uC (uC (A ++ [x,y,z]) ((A ++ [x,y,z]).length - 3 + 0) (t / 2 ^ 16 % 256)) ((A ++ [x,y,z]).length - 3 + 1) (t / 2 ^ 8 % 256)) ((A ++ [x,y,z]).length - 3 + 2) (t / 2 ^ 0 % 256) = _
 rw [hl,vQ,vQ,vQ]
 rfl
theorem aIW {a b c x y z:Nat} (hb:b < 256) (hc:c < 256) (hy:y < 256) (hz:z < 256) (h:be3 a b c = be3 x y z):a = x /\ b = y /\ c = z:=by
 unfold be3 at h
 omega
theorem nA (A B:List Nat) (j:Nat) (h:j < A.length):(A ++ B).getD j 0 = A.getD j 0:=by
 rw [List.getD_eq_getElem?_getD,List.getD_eq_getElem?_getD,List.getElem?_append_left h]
theorem aE8 (A:List Nat) (x y z:Nat):(A ++ [x,y,z]).getD A.length 0 = x /\ (A ++ [x,y,z]).getD (A.length + 1) 0 = y /\ (A ++ [x,y,z]).getD (A.length + 2) 0 = z:=by
 have h:=fun j=>yJ A [x,y,z] j
 exact ⟨by have:=h 0;rwa [Nat.add_zero] at this,h 1,h 2⟩
theorem aEE {k:Nat} {l:List Nat} (hk:k ≠ 0) (hl:l.length <= 65536) (hb:∀ c ∈ frP k l,c < 256) (t:Nat × Nat) (h:cP (cR (frP k l) t) = 0):cR (frP k l) t = frP k l:=by
 have hF:(frP k l).length = l.length + 8:=dE k l
 have hN:frN (frP k l) = l.length:=by have:=lD k l [];rwa [List.append_nil] at this
 have hT:cP (frP k l) = 0:=by have:=kR (k:=k) (l:=l) [] hk hl;rwa [List.append_nil] at this
 generalize frP k l = F at *
 obtain ⟨p,hp⟩:∃ p,t.1 % (F.length + 1) = p:=⟨_,rfl⟩
 have hple:p <= F.length:=by rw [<- hp];exact Nat.le_of_lt_succ (Nat.mod_lt _ (by omega))
 have hq:(F.take p).length = p:=by rw [List.length_take];omega
 have hs0:∀ L:List Nat,cP L = 0 -> eJ L = 0:=fun L g=>by
  false_or_by_contra
  rename_i h2
  unfold cP at g
  rw [if_pos h2] at g
  exact h2 g
 have hS:=jY (hs0 _ h)
 unfold cR at h hS ⊢
 rw [hp,hq] at h hS ⊢
 by_cases h3:3 <= p
 ·rw [if_pos h3] at h hS ⊢
  rw [eT,hq] at hS
  obtain ⟨A,x,y,z,hA,hAl⟩:=aEq (F.take p) (by rw [hq];exact h3)
  rw [hq] at hAl
  rw [hA,aFr] at h hS ⊢
  generalize hx:x ^^^ (t.2 / 2 ^ 16 % 256) = x' at *
  generalize hy:y ^^^ (t.2 / 2 ^ 8 % 256) = y' at *
  generalize hz:z ^^^ (t.2 / 2 ^ 0 % 256) = z' at *
  have hin:∀ c ∈ F.take p,c < 256:=fun c hc=>hb c (List.mem_of_mem_take hc)
  have bx:x < 256:=hin x (by rw [hA];simp)
  have byy:y < 256:=hin y (by rw [hA];simp)
  have bz:z < 256:=hin z (by rw [hA];simp)
  have bx':x' < 256:=by rw [<- hx];exact Nat.xor_lt_two_pow (n:=8) bx (Nat.mod_lt _ (by decide))
  have by':y' < 256:=by rw [<- hy];exact Nat.xor_lt_two_pow (n:=8) byy (Nat.mod_lt _ (by decide))
  have bz':z' < 256:=by rw [<- hz];exact Nat.xor_lt_two_pow (n:=8) bz (Nat.mod_lt _ (by decide))
  have hj:∀ j,j < 5 -> (A ++ [x',y',z']).getD j 0 = F.getD j 0:=by
   intro j hj
   have h8:8 <= p:=by omega
   rw [nA _ _ _ (by omega),<- nA A [x,y,z] j (by omega),<- hA]
   rw [List.getD_eq_getElem?_getD,List.getD_eq_getElem?_getD,List.getElem?_take_of_lt (by omega)]
  have hN':frN (A ++ [x',y',z']) = l.length:=by
   rw [<- hN]
   unfold frN
   rw [hj 2 (by omega),hj 3 (by omega),hj 4 (by omega)]
  rw [hN'] at hS
  have hpe:p = F.length:=by omega
  have hFA:F = A ++ [x,y,z]:=by rw [<- hA,hpe,List.take_length]
  have hAl5:A.length = l.length + 5:=by omega
  have sum:∀ a b c:Nat,frN (A ++ [a,b,c]) = l.length -> cP (A ++ [a,b,c]) = 0 -> jZ A = be3 a b c:=by
   intro a b c hn ht
   have hs:=hs0 _ ht
   unfold cP at ht
   rw [if_neg (by simp [hs]),hn] at ht
   have hOk:mE (l.length + 5) ((A ++ [a,b,c]).take (l.length + 8)):=by
    false_or_by_contra
    rename_i h2
    rw [if_neg h2] at ht
    exact absurd ht (by decide)
   rw [List.take_of_length_le (by simp;omega)] at hOk
   unfold mE at hOk
   rw [<- hAl5,List.take_left' rfl] at hOk
   obtain ⟨g0,g1,g2⟩:=aE8 A a b c
   rw [g0,g1,g2] at hOk
   exact hOk
  have s1:=sum x' y' z' hN' h
  have s2:=sum x y z (by rw [<- hFA];exact hN) (by rw [<- hFA];exact hT)
  obtain ⟨e1,e2,e3⟩:=aIW by' bz' byy bz (s1.symm.trans s2)
  rw [e1,e2,e3,hFA]
 ·rw [if_neg h3] at hS
  rw [hq] at hS
  omega

def frL (k:Nat) (l:List Nat):List Nat:=[102,k,l.length / 65536,l.length / 256 % 256,l.length % 256] ++ l
theorem uK (k:Nat) (l:List Nat):frP k l = frL k l ++ [jZ (frL k l) / 65536,jZ (frL k l) / 256 % 256,jZ (frL k l) % 256]:=rfl
theorem yP (k:Nat) (l:List Nat):(frL k l).length = l.length + 5:=by unfold frL;simp
theorem aE7 (k:Nat) (l X:List Nat):frN (frL k l ++ X) = l.length:=by
 show be3 (l.length / 65536) (l.length / 256 % 256) (l.length % 256) = l.length
 unfold be3
 omega
theorem sI {L:List Nat} (h:cP L = 0):eJ L = 0:=by
 false_or_by_contra
 rename_i h2
 unfold cP at h
 rw [if_pos h2] at h
 exact h2 h
theorem aF1 {k:Nat} {l R:List Nat} {a b c:Nat} (hb:b < 256) (hc:c < 256) (h:cP (frL k l ++ a :: b :: c :: R) = 0) :
  frL k l ++ a :: b :: c :: R = frP k l ++ R:=by
 have hs:=sI h
 unfold cP at h
 rw [if_neg (by simp [hs]),aE7] at h
 have hOk:mE (l.length + 5) ((frL k l ++ a :: b :: c :: R).take (l.length + 8)):=by
  false_or_by_contra
  rename_i h2
  rw [if_neg h2] at h
  exact absurd h (by decide)
 have hL:=yP k l
 have ht:(frL k l ++ a :: b :: c :: R).take (l.length + 8) = frL k l ++ [a,b,c]:=by
  rw [show l.length + 8 = (frL k l).length + 3 by omega,List.take_length_add_append]
  rfl
 rw [ht] at hOk
 unfold mE at hOk
 rw [<- hL,List.take_left' rfl] at hOk
 obtain ⟨g0,g1,g2⟩:=aE8 (frL k l) a b c
 rw [g0,g1,g2] at hOk
 unfold be3 at hOk
 rw [uK,hOk,List.append_assoc]
 have e1:(a * 65536 + b * 256 + c) / 65536 = a:=by omega
 have e2:(a * 65536 + b * 256 + c) / 256 % 256 = b:=by omega
 have e3:(a * 65536 + b * 256 + c) % 256 = c:=by omega
 rw [e1,e2,e3]
 rfl
theorem aCt {k:Nat} {l R:List Nat} (hR:R.length < l.length + 8) (h5:8 <= R.length -> ∀ j,j < 5 -> R.getD j 0 = (frL k l).getD j 0):cP R ≠ 0:=by
 intro h
 have hS:=jY (sI h)
 have h8:8 <= R.length:=by omega
 have hN:frN R = l.length:=by
  have:=aE7 k l []
  rw [List.append_nil] at this
  rw [<- this]
  unfold frN
  rw [h5 h8 2 (by omega),h5 h8 3 (by omega),h5 h8 4 (by omega)]
 omega
def qC (q:List Nat) (t:Nat):List Nat:=if 3 <= q.length then tornTo q t 3 else q
theorem aDh (l:List Nat) (t:Nat × Nat):cR l t = qC (l.take (t.1 % (l.length + 1))) t.2:=rfl
theorem vL (A:List Nat) (x y z t:Nat):qC (A ++ [x,y,z]) t = A ++ [x ^^^ (t / 2 ^ 16 % 256),y ^^^ (t / 2 ^ 8 % 256),z ^^^ (t / 2 ^ 0 % 256)]:=by
 unfold qC
 rw [if_pos (by simp),aFr]
theorem aGT (A:List Nat) {B:List Nat} (h:3 <= B.length) (t:Nat):qC (A ++ B) t = A ++ qC B t:=by
 obtain ⟨C,x,y,z,rfl,_⟩:=aEq B h
 rw [<- List.append_assoc,vL,vL,List.append_assoc]
theorem tK (q:List Nat) (t:Nat):(qC q t).length = q.length:=by
 unfold qC
 split
 ·exact eT _ _ _
 ·rfl
theorem aEn {R:List Nat} (h:R.length <= 7):cP R ≠ 0:=fun g=>by
 have:=jY (sI g)
 omega
def framesW:List (Nat × List Nat) -> List Nat
 | []=>[]
 | f :: r=>frP f.1 f.2 ++ framesW r
theorem aBa (t:Nat):∀ (fs:List (Nat × List Nat)) (m:Nat),∃ j R,j <= fs.length /\ qC ((framesW fs).take m) t = framesW (fs.take j) ++ R /\ cP R ≠ 0
 | [],m=>⟨0,[],Nat.le_refl _,by simp [framesW,qC],by decide⟩
 | (k,l) :: r,m=>by
  have hF:(frP k l).length = l.length + 8:=dE k l
  have hL:=yP k l
  by_cases hm:m < l.length + 8
  ·-- within the first one
   have hq:(framesW ((k,l) :: r)).take m = (frP k l).take m:=by
    show (frP k l ++ framesW r).take m = _
    rw [List.take_append_of_le_length (by omega)]
   have hql:((frP k l).take m).length = m:=by rw [List.length_take];omega
   refine ⟨0,qC ((frP k l).take m) t,Nat.zero_le _,by rw [hq];rfl,aCt (k:=k) (l:=l) (by rw [tK,hql];exact hm) ?_⟩
   rw [tK,hql]
   intro h8 j hj
   obtain ⟨A,x,y,z,hA,hAl⟩:=aEq ((frP k l).take m) (by omega)
   rw [hql] at hAl
   rw [hA,vL,nA _ _ _ (by omega),<- nA A [x,y,z] j (by omega),<- hA,List.getD_eq_getElem?_getD,List.getElem?_take_of_lt (by omega),<- List.getD_eq_getElem?_getD,uK,nA _ _ _ (by omega)]
  ·have hq:(framesW ((k,l) :: r)).take m = frP k l ++ (framesW r).take (m - (l.length + 8)):=by
    show (frP k l ++ framesW r).take m = _
    rw [List.take_append,List.take_of_length_le (by omega),hF]
   rw [hq]
   by_cases h3:3 <= ((framesW r).take (m - (l.length + 8))).length
   ·obtain ⟨j,R,h1,h2,h4⟩:=aBa t r (m - (l.length + 8))
    refine ⟨j + 1,R,Nat.succ_le_succ h1,?_,h4⟩
    rw [aGT _ h3,h2]
    show _ = (frP k l ++ framesW (r.take j)) ++ R
    rw [List.append_assoc]
   ·-- the tear meets the first one's sum
    generalize (framesW r).take (m - (l.length + 8)) = B at h3 ⊢
    have hx:∀ s:Nat,s < 256 -> ∀ v:Nat,s ^^^ (v % 256) < 256:=fun s hs v=>Nat.xor_lt_two_pow (n:=8) hs (Nat.mod_lt _ (by decide))
    have hp:∃ a b c R,qC (frP k l ++ B) t = frL k l ++ a :: b :: c :: R /\ b < 256 /\ c < 256 /\ R.length <= 2:=by
     rw [uK]
     generalize hs1:jZ (frL k l) / 65536 = s1
     have b2:jZ (frL k l) / 256 % 256 < 256:=Nat.mod_lt _ (by decide)
     have b3:jZ (frL k l) % 256 < 256:=Nat.mod_lt _ (by decide)
     generalize jZ (frL k l) / 256 % 256 = s2 at b2 ⊢
     generalize jZ (frL k l) % 256 = s3 at b3 ⊢
     match B,h3 with
     | [],_ =>
      refine ⟨s1 ^^^ (t / 2 ^ 16 % 256),s2 ^^^ (t / 2 ^ 8 % 256),s3 ^^^ (t / 2 ^ 0 % 256),[],?_,hx s2 b2 _,hx s3 b3 _,by decide⟩
      rw [List.append_nil]
      exact vL _ _ _ _ _
     | [u],_ =>
      refine ⟨s1,s2 ^^^ (t / 2 ^ 16 % 256),s3 ^^^ (t / 2 ^ 8 % 256),[u ^^^ (t / 2 ^ 0 % 256)],?_,hx s2 b2 (t / 2 ^ 16),hx s3 b3 (t / 2 ^ 8),by simp⟩
      have:=vL (frL k l ++ [s1]) s2 s3 u t
      simpa [List.append_assoc] using this
     | [u,v],_ =>
      refine ⟨s1,s2,s3 ^^^ (t / 2 ^ 16 % 256),[u ^^^ (t / 2 ^ 8 % 256),v ^^^ (t / 2 ^ 0 % 256)],?_,b2,hx s3 b3 (t / 2 ^ 16),by simp⟩
      have:=vL (frL k l ++ [s1,s2]) s3 u v t
      simpa [List.append_assoc] using this
     | _ :: _ :: _ :: _,h=>exact absurd (by simp) h
    obtain ⟨a,b,c,R,h1,h2,h4,h5⟩:=hp
    rw [h1]
    by_cases he:cP (frL k l ++ a :: b :: c :: R) = 0
    ·refine ⟨1,R,by simp,?_,aEn (by omega)⟩
     rw [aF1 h2 h4 he]
     simp [framesW]
    ·exact ⟨0,_,Nat.zero_le _,rfl,he⟩
theorem wU (fs:List (Nat × List Nat)) (x:Nat × Nat):∃ j R,j <= fs.length /\ cR (framesW fs) x = framesW (fs.take j) ++ R /\ cP R ≠ 0:=by
 rw [aDh]
 exact aBa x.2 fs _
end Go.Proofs.YtjdglpcnkiioeaaGreat
