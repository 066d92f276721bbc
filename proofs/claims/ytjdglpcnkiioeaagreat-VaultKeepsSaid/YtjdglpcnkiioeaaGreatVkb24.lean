/- Several texts in one: Torn for vltkeeps_law_holds. No conditions but those stated. -/
import Derived.OneCell
import Derived.Test.YtjdglpcnkiioeaaGreatVkb18
import Derived.Test.YtjdglpcnkiioeaaGreatVkb23
import Derived.Test.YtjdglpcnkiioeaaGreatVkb7
set_option maxHeartbeats 16000000
namespace Go.Proofs.YtjdglpcnkiioeaaGreat
open Go.Lib (hid)
open Go.RowKit Go.Maps Go.Proofs.Own

theorem aIt:(Tryz.prog.info? 131).map (·.size) = some 2:=by kernel_rfl
def aHe (tc:Nat) (R:Nat -> Prop) (ts:List (Nat × Nat)) (w:World):Ending -> World -> Prop:=fun E w'=>E = .returned (.agg #[.int .u16 ((ts.headD (0,0)).1:Nat),.int .u32 ((ts.headD (0,0)).2:Nat)]) /\
 (∃ v',w'.heap[tc]? = some (.cells #[v'] 24 (0,0)) /\ dV w' v' ts.tail /\ (ts.tail = [] \/ ∀ b,v'.ownBlock = some b -> ¬ R b)) /\ Kept w w' (fun k=>k = tc)

set_option maxRecDepth 20000 in
theorem aFW (tc:Nat) (R:Nat -> Prop) (hR:R tc) (v:Value) (ts:List (Nat × Nat)) (w:World) (hblk:w.heap[tc]? = some (.cells #[v] 24 (0,0))) (hT:dV w v ts) (hap:ts = [] \/ ∀ b,v.ownBlock = some b -> ¬ R b) :
  Calls Tryz.prog 68 #[.pointer (some ⟨tc,0,none⟩)] w (aHe tc R ts w):=by
 have h0:=cell_of_one hblk
 have hf:=free_of_one hblk
 have HBK:=hid hblk
 have htl:tc < w.heap.size:=World.block_lt_of_cell? _ _ h0
 clear hblk
 cases ts with
 | nil =>
  obtain ⟨a,c,rfl,hl⟩:=hT.1.shape
  have HT:=hid hT
  have HC:=hid h0
  have HF:=hid hf
  clear hl hT hap hf
  simp only [List.map_nil,List.length_nil] at h0
  go_enter Tryz.func68,Tryz.ntmps68
  go_wp2_with fail
  refine bodyPost_ret (v:=.agg #[.int .u16 0,.int .u32 0]) (by simp [results,Tryz.results68,go_sem]) rfl ?_
  have hb:Below w.heap.size w (w.alloc (.cells #[.int .u16 0,.int .u32 0] 131)):=(Below.refl _ _).alloc (Nat.le_refl _) _
  exact ⟨rfl,⟨_,(hb.block tc htl).trans HBK.out,HT.out.below hb,.inl rfl⟩,Kept.aJ hb fun k h1 h2=>by omega⟩
 | cons x ts =>
  obtain ⟨a,c,rfl,hl⟩:=hT.1.shape
  have hap':∀ b,(Value.slice a (List.map tX (x :: ts)).length c).ownBlock = some b -> ¬ R b:=hap.resolve_left (by simp)
  obtain ⟨v2,hT2,hO2,hcut⟩:=hT.tail Tryz.underlying24 aIt
  obtain ⟨hn,hcap,b,o,rfl,hc0,hc1⟩:=hT.head
  have HL2:=hid (show dV w v2 ts from hT2)
  rw [hn] at h0 hcut hap' hO2
  have HRB:=hid (hap' b rfl)
  have hbt:b ≠ tc:=fun e=>hap' b rfl (e ▸ hR)
  have hbl:b < w.heap.size:=World.block_lt_of_cell? _ _ hc0
  have HO:Hid (∀ g,v2.ownBlock = some g -> g = b):=hid fun g hg=>by rw [hO2] at hg;exact (Option.some.inj hg).symm
  have HCUT:=hid hcut
  have NN:Hid ((¬ tc = w.heap.size) /\ (¬ b = w.heap.size) /\ ¬ w.heap.size = tc):=hid ⟨by omega,by omega,by omega⟩
  have FR:=hid hf
  have hpos:(0:Int) < (ts.length:Int) + 1:=by omega
  obtain ⟨a2,c2,hv2,_⟩:=HL2.out.1.shape
  subst hv2
  generalize (List.map tX ts).length = m2 at *
  clear hT hl hap hap' hT2 hO2 hn hcap hf hcut
  go_enter Tryz.func68,Tryz.ntmps68
  have B1:Hid (Below w.heap.size w (w.alloc (.cells #[.int .u16 0,.int .u32 0] 131))):=hid ((Below.refl _ _).alloc (Nat.le_refl _) _)
  have M1':(w.alloc (.cells #[.int .u16 0,.int .u32 0] 131)).cell? ⟨w.heap.size,0,none⟩ = some (.int .u16 0) /\ (w.alloc (.cells #[.int .u16 0,.int .u32 0] 131)).cell? ⟨w.heap.size,1,none⟩ = some (.int .u32 0) /\ (w.alloc (.cells #[.int .u16 0,.int .u32 0] 131)).frozen? ⟨w.heap.size,0,none⟩ = false /\ (w.alloc (.cells #[.int .u16 0,.int .u32 0] 131)).frozen? ⟨w.heap.size,1,none⟩ = false:=⟨by go_cell,by go_cell,by simp,by simp⟩
  have M1:=hid M1'
  clear M1'
  go_wp2_with fail
  generalize World.alloc w _ = w1 at *
  have XR:Hid (w1.cell? ⟨tc,0,none⟩ = some (.slice (some ⟨b,o,none⟩) (ts.length + 1) c) /\ w1.cell? ⟨b,o,none⟩ = some (.int .u16 (x.1:Nat)) /\ w1.cell? ⟨b,o + 1,none⟩ = some (.int .u32 (x.2:Nat))):=hid ⟨Below.at B1.out h0 htl,Below.at B1.out hc0 hbl,Below.at B1.out hc1 hbl⟩
  have FR1:Hid (w1.frozen? ⟨tc,0,none⟩ = false):=hid (by rw [B1.out.frozen (p:=⟨tc,0,none⟩) htl];exact FR.out)
  have L1:=B1.out.size
  clear h0 hc0 hc1 FR
  have FR:=FR1
  have hcut:=HCUT.out
  refine aN [0,1,3,0,8,7,63] 32 (fun w'=>w'.cell? ⟨tc,0,none⟩ = some (.slice (some ⟨b,o,none⟩) (ts.length + 1) c) /\ w'.cell? ⟨b,o,none⟩ = some (.int .u16 (x.1:Nat)) /\ w'.cell? ⟨b,o + 1,none⟩ = some (.int .u32 (x.2:Nat))) (by kernel_rfl) ?_
  refine aB [0,1,2,3,4] (by kernel_rfl) (L:=bm 7 31) (by kernel_rfl) (f':=2) rfl (fun _ _ _ _ h=>h) (fun w o h=>(((aP.cell _ _).and ((aP.cell _ _).and (aP.cell _ _))).alloc h o)) (.inr XR.out) ?_
  simp only [sF,sL]
  iterate 5 (first | (refine aQ _ (by rfl) (fun w' hs=>by obtain ⟨y0,y1,y2⟩:=hs;go_simp;try with_reducible rfl) rfl ?_;simp only [Act.put,sA]) | (refine aD _ (by rfl) (fun w'=>by go_simp;try with_reducible rfl) ?_;simp only [Act.put,sA]))
  refine aE ?_
  refine aI 5 (by kernel_rfl) (L:=bm 7 63) (by kernel_rfl) ?_
  simp only [sL]
  have z0:=M1.out.1;have z1:=M1.out.2.1;have z2:=M1.out.2.2.1;have z3:=M1.out.2.2.2;go_wp2_with fail;generalize hw2:World.setCell _ _ _ = w2;have K2:Hid (Kept w1 w2 (fun k=>k = w.heap.size)):=hid (by subst hw2;exact (Kept.setCell w1 ⟨w.heap.size,0,none⟩ _).trans (Kept.setCell _ ⟨w.heap.size,1,none⟩ _));have R2:Hid (w2.cell? ⟨w.heap.size,0,none⟩ = some (.int .u16 (x.1:Nat)) /\ w2.cell? ⟨w.heap.size,1,none⟩ = some (.int .u32 (x.2:Nat)) /\ w2.frozen? ⟨w.heap.size,0,none⟩ = false /\ w2.frozen? ⟨w.heap.size,1,none⟩ = false):=hid (by subst hw2;exact ⟨by rw [World.cell?_setCell_other _ _ _ _ (by simp)];exact World.cell?_setCell_same _ _ _ z0,World.cell?_setCell_same _ _ _ (by rw [World.cell?_setCell_other _ _ _ _ (by simp)];exact z1),by rw [World.frozen?_setCell,World.frozen?_setCell];exact z2,by rw [World.frozen?_setCell,World.frozen?_setCell];exact z3⟩);clear hw2 z0 z1 z2 z3
  refine aF (fun _=>⟨K2.out.cell XR.out.1 NN.out.1,K2.out.cell XR.out.2.1 NN.out.2.1,K2.out.cell XR.out.2.2 NN.out.2.1⟩) ?_
  refine aI 6 (by kernel_rfl) (L:=bm 7 127) (by kernel_rfl) ?_
  simp only [sL]
  have z0:=K2.out.cell XR.out.1 NN.out.1;have z1:w2.frozen? ⟨tc,0,none⟩ = false:=(by rw [K2.out.frozen (a:=⟨tc,0,none⟩) (Nat.lt_of_lt_of_le htl L1) NN.out.1];exact FR.out);go_wp2_with fail;generalize hw3:World.setCell _ _ _ = w3;have K3:Hid (Kept w2 w3 (fun k=>k = tc)):=hid (by subst hw3;exact Kept.setCell _ ⟨tc,0,none⟩ _);have BK3:Hid (w3.heap[tc]? = some (.cells #[.slice a2 m2 c2] 24 (0,0))):=hid (by subst hw3;exact one_setCell ((K2.out.block tc (Nat.lt_of_lt_of_le htl L1) NN.out.1).trans ((B1.out.block tc htl).trans HBK.out)));have C3:Hid (w3.cell? ⟨tc,0,none⟩ = some (.slice a2 m2 c2) /\ w3.frozen? ⟨tc,0,none⟩ = false /\ w3.frozen? ⟨w.heap.size,0,none⟩ = false /\ w3.frozen? ⟨w.heap.size,1,none⟩ = false):=hid (by subst hw3;exact ⟨World.cell?_setCell_same _ _ _ z0,by rw [World.frozen?_setCell];exact z1,by rw [World.frozen?_setCell];exact R2.out.2.2.1,by rw [World.frozen?_setCell];exact R2.out.2.2.2⟩);clear hw3 z0 z1
  refine aF nofun ?_
  refine aT (by kernel_rfl) ?_
  have q0:=K3.out.cell R2.out.1 NN.out.2.2
  have q1:=K3.out.cell R2.out.2.1 NN.out.2.2
  have f0:w3.frozen? ⟨w.heap.size,0,none⟩ = false:=C3.out.2.2.1
  have f1:w3.frozen? ⟨w.heap.size,1,none⟩ = false:=C3.out.2.2.2
  have l3:w.heap.size < w3.heap.size:=World.block_lt_of_cell? _ _ q0
  have B1k:=B1.out
  go_wp2_with fail
  generalize hw4:World.setCell (World.setCell w3 _ _) _ _ = w4
  have K4:Hid (Kept w3 w4 (fun k=>k = w.heap.size)):=hid (by subst hw4;exact (Kept.setCell w3 ⟨w.heap.size,0,none⟩ _).trans (Kept.setCell _ ⟨w.heap.size,1,none⟩ _))
  have r0:w4.cell? ⟨w.heap.size,0,none⟩ = some (.int .u16 (x.1:Nat)):=by subst hw4;rw [World.cell?_setCell_other _ _ _ _ (by simp)];exact World.cell?_setCell_same _ _ _ q0
  have r1:w4.cell? ⟨w.heap.size,1,none⟩ = some (.int .u32 (x.2:Nat)):=by subst hw4;exact World.cell?_setCell_same _ _ _ (by rw [World.cell?_setCell_other _ _ _ _ (by simp)];exact q1)
  have r2:w4.frozen? ⟨tc,0,none⟩ = false:=by subst hw4;rw [World.frozen?_setCell,World.frozen?_setCell];exact C3.out.2.1
  have l4:w.heap.size < w4.heap.size:=World.block_lt_of_cell? _ _ r0
  clear hw4 q0 q1 f0 f1
  refine bodyPost_ret (v:=.agg #[.int .u16 (x.1:Nat),.int .u32 (x.2:Nat)]) (by simp [results,Tryz.results68,go_sem,r0,r1]) rfl ?_
  have KA:Kept w w4 (fun k=>k = tc):=by
   exact (((Kept.aJ B1.out (S:=fun k=>k = tc) (fun k h1 h2=>by omega)).iG K2.out (Nat.le_refl _)).trans K3.out).iG K4.out (Nat.le_refl _)
  have KD:Kept w w4.drew (fun k=>k = tc):=KA.trans (Kept.drew _ _)
  exact ⟨rfl,⟨_,(K4.out.block tc (Nat.lt_of_lt_of_le (Nat.lt_of_lt_of_le htl L1) (Nat.le_trans K2.out.size K3.out.size)) NN.out.1).trans BK3.out,HL2.out.kept KD (.inr fun g hg=>by rw [HO.out g hg];exact hbt),.inr fun g hg=>by rw [HO.out g hg];exact HRB.out⟩,KD⟩

def uC (b:List Nat) (j x:Nat):List Nat:=b.set j (b.getD j 0 ^^^ x)
def tornTo (b:List Nat) (t:Nat):Nat -> List Nat
 | 0=>b
 | i + 1=>uC (tornTo b t i) (b.length - 3 + i) (t / 2 ^ (16 - 8 * i) % 256)
def cR (l:List Nat) (t:Nat × Nat):List Nat:=if 3 <= (l.take (t.1 % (l.length + 1))).length then tornTo (l.take (t.1 % (l.length + 1))) t.2 3 else l.take (t.1 % (l.length + 1))
theorem eT (b:List Nat) (t:Nat):∀ i,(tornTo b t i).length = b.length
 | 0=>rfl
 | i + 1=>by rw [tornTo,uC,List.length_set,eT b t i]
theorem lH {b:List Nat} (h:∀ c ∈ b,c < 256) (t:Nat):∀ i,∀ c ∈ tornTo b t i,c < 256
 | 0=>h
 | i + 1=>by
  intro c hc
  unfold tornTo uC at hc
  rcases List.mem_or_eq_of_mem_set hc with hc | rfl
  ·exact lH h t i c hc
  ·have h1:(tornTo b t i).getD (b.length - 3 + i) 0 < 256:=by
    rw [List.getD_eq_getElem?_getD]
    cases e:(tornTo b t i)[b.length - 3 + i]? with
    | none=>simp
    | some x=>exact lH h t i x (List.mem_of_getElem? e)
   exact Nat.xor_lt_two_pow (n:=8) h1 (Nat.mod_lt _ (by decide))
theorem tZ (L:List Nat) (j y:Nat):(ints (L.set j y)).map (Value.int .u8) = ((ints L).map (Value.int .u8)).set j (.int .u8 (y:Int)):=by
 unfold ints
 rw [List.map_set,List.map_set]
theorem aKo (a b:Nat) (ha:a < 256) (hb:b < 256):bits .xor .u8 (a:Int) (b:Int) = ((a ^^^ b:Nat):Int):=by
 have h:=Nat.xor_lt_two_pow (n:=8) ha hb
 have e8:∀ n:Nat,n < 256 -> (BitVec.ofInt 8 (n:Int)).toNat = n:=fun n hn=>by
  rw [BitVec.ofInt_natCast,BitVec.toNat_ofNat];exact Nat.mod_eq_of_lt hn
 have hw:∀ n:Int,IntKind.u8.wrap n = n % 256:=fun n=>by simp [IntKind.wrap,IntKind.bits,IntKind.signed]
 show IntKind.u8.wrap ((BitVec.ofInt 8 (a:Int) ^^^ BitVec.ofInt 8 (b:Int)).toNat:Int) = _
 rw [BitVec.toNat_xor,e8 a ha,e8 b hb,hw]
 omega

set_option maxRecDepth 20000 in
theorem aIA (v:Value) (l:List Nat) (t:Nat × Nat) (w:World) (hB:Bytes w v l) (h1:t.1 < 65536) (h2:t.2 < 4294967296) :
  Calls Tryz.prog 69 #[v,.agg #[.int .u16 (t.1:Nat),.int .u32 (t.2:Nat)]] w fun e w'=>∃ v',e = .returned v' /\ cL w' w.heap.size 5 .u8 v' (ints (cR l t)) /\ Below w.heap.size w w':=by
 have hls:=hB.small
 have hlt:t.1 % (l.length + 1) <= l.length:=Nat.le_of_lt_succ (Nat.mod_lt _ (by omega))
 obtain ⟨t1,t2⟩:=t
 simp only at h1 h2 hlt ⊢
 have HM:Hid ((t1:Int) % ((l.length:Int) + 1) = ((t1 % (l.length + 1):Nat):Int)):=hid (by rw [Int.natCast_emod,Int.natCast_add];rfl)
 obtain ⟨v2,hB2,hcut⟩:=hB.aHs Tryz.u8s _ hlt
 have HTL:Hid (cR l (t1,t2) = if 3 <= (l.take (t1 % (l.length + 1))).length then tornTo (l.take (t1 % (l.length + 1))) t2 3 else l.take (t1 % (l.length + 1))):=hid rfl
 have HB2:=hid hB2
 generalize l.take (t1 % (l.length + 1)) = b at HB2 HTL
 generalize hm:t1 % (l.length + 1) = m at HM hcut hlt
 obtain ⟨a,c,rfl,_⟩:=hB.shape
 obtain ⟨a2,c2,rfl,_⟩:=HB2.out.shape
 have hbs:(ints b).length <= 2097152:=by rw [aX];exact HB2.out.small
 have HT2:=hid h2
 have hm':=HM.out
 clear hB hB2 hm hlt
 have hl':(l.length:Int) <= 2097152:=by omega
 have ht':(t1:Int) < 65536:=by omega
 have HBT:=hid HB2.out.lt
 go_enter Tryz.func69,Tryz.ntmps69
 go_wp2_with fail
 refine (pF _ _ _ (HB2.out.alloc _).rd hbs).mono ?_
 rintro e w2 ⟨v3,rfl,hown,hb2⟩
 have BX:Below w.heap.size w (w.alloc (.cells #[.int .u16 (t1:Nat),.int .u32 (t2:Nat)] 131)):=(Below.refl _ _).alloc (Nat.le_refl _) _
 have B2:Hid (Below w.heap.size w w2):=hid (BX.trans (hb2.mono BX.size))
 have C2:Hid (w2.cell? ⟨w.heap.size,1,none⟩ = some (.int .u32 (t2:Nat))):=hid (Below.at hb2 (by go_cell) (by simp))
 have O2:Hid (cL w2 (w.heap.size + 1) 5 .u8 v3 (ints b)):=hid (by simpa using hown)
 clear hb2 BX hm' hcut h1 h2 hls hl' ht'
 by_cases h3:3 <= b.length
 ·have HTL2:Hid (cR l (t1,t2) = tornTo b t2 3):=hid (by rw [HTL.out,if_pos h3])
  obtain ⟨g,cap,rfl,hg⟩:∃ g cap,v3 = .slice (some ⟨g,0,none⟩) (ints b).length cap /\ w.heap.size + 1 <= g:=by
   rcases hown.2 with ⟨rfl,h0⟩ | ⟨g,cap,cur,rfl,h1,_⟩
   ·rw [aX] at h0;omega
   ·simp only [World.size_alloc] at h1;exact ⟨g,cap,rfl,h1⟩
  have HN:Hid ((ints b).length = b.length):=hid (aX b)
  obtain ⟨n,hn⟩:∃ n,b.length = n:=⟨_,rfl⟩
  have R2:Hid (w2.ownsRow (w.heap.size + 1) 5 1 (.slice (some ⟨g,0,none⟩) n cap) n ((ints b).map (.int .u8))):=hid (by have h:=O2.out;unfold cL at h;rw [HN.out,hn] at h;exact h)
  have HNB:=hid hn
  have hn3:(3:Int) <= (n:Int):=by omega
  have hnm:(n:Int) <= 2097152:=by rw [HN.out,hn] at hbs;omega
  rw [HN.out,hn]
  clear hown hbs h3 hn O2
  go_wp2_with fail
  obtain ⟨q,hq⟩:∃ q:Nat,n = q + 3:=⟨n - 3,by omega⟩
  have HQ:=hid hq
  have e0:IntKind.i64.wrap ((n:Int) - 3) = (q:Int):=by simp only [IntKind.wrap_i64];omega
  clear hq
  go_loopw [22] (fun y wr=>∃ k:Nat,k <= 3 /\ y = .int .i64 k /\ wr.ownsRow (w.heap.size + 1) 5 1 (.slice (some ⟨g,0,none⟩) n cap) n ((ints (tornTo b t2 k)).map (.int .u8)) /\ wr.cell? ⟨w.heap.size,1,none⟩ = some (.int .u32 (t2:Nat)) /\ Below w.heap.size w wr) (fun y _=>3 - (intOf y).toNat)
  case atStart=>exact ⟨0,by omega,rfl,R2.out,C2.out,B2.out⟩
  case round =>
   obtain ⟨k,hk,rfl,hr,hc,hb⟩:=hrel
   have RK:=hid hr
   have CK:=hid hc
   have BK:=hid hb
   clear hr hc hb
   by_cases hk3:k < 3
   ·obtain rfl | rfl | rfl:k = 0 \/ k = 1 \/ k = 2:=by omega
    ·clear hk hk3
     have hcx:=World.ownsRow.cellAt RK.out (q) (by have:=HQ.out;omega)
     obtain ⟨x,hx,hxl⟩:∃ x:Nat,(tornTo b t2 0).getD (q) 0 = x /\ x < 256:=⟨_,rfl,by
      rw [List.getD_eq_getElem?_getD]
      cases e:(tornTo b t2 0)[q]? with
      | none=>simp
      | some x=>exact lH HBT.out t2 0 x (List.mem_of_getElem? e)⟩
     have hcy:wr.cell? ⟨g,q,none⟩ = some (.int .u8 (x:Nat)):=by
      rw [hcx]
      have hlen:q < (tornTo b t2 0).length:=by rw [eT,HNB.out,HQ.out];omega
      rw [<- hx,List.getD_eq_getElem?_getD]
      unfold ints
      rw [List.map_map,List.getElem?_map,List.getElem?_eq_getElem hlen]
      rfl
     have HXV:Hid (tornTo b t2 (0 + 1) = (tornTo b t2 0).set (q) (x ^^^ (t2 / 65536 % 256))):=hid (by
      show (tornTo b t2 0).set (b.length - 3 + 0) ((tornTo b t2 0).getD (b.length - 3 + 0) 0 ^^^ _) = _
      rw [HNB.out,HQ.out,Nat.add_sub_cancel,show q + 0 = q from rfl,hx]
      all_goals simp)
     have HST:=hid (World.ownsRow.stored RK.out (q) (.int .u8 ((x ^^^ (t2 / 65536 % 256):Nat):Int)))
     have XR:Hid (wr.cell? ⟨g,q,none⟩ = some (.int .u8 (x:Nat)) /\ wr.cell? ⟨w.heap.size,1,none⟩ = some (.int .u32 (t2:Nat))):=hid ⟨hcy,CK.out⟩
     have FR:Hid (wr.frozen? ⟨g,q,none⟩ = false):=hid (World.ownsRow.frozenAt RK.out (q))
     have hX:bits BinOp.xor .u8 (x:Int) ((t2:Int) / 65536 % 256) = ((x ^^^ (t2 / 65536 % 256):Nat):Int):=by
      rw [<- aKo x (t2 / 65536 % 256) hxl (Nat.mod_lt _ (by decide))]
      rfl
     have i0:(0:Int) <= (q:Int):=by omega
     have i1:(q:Int) < (n:Int):=by have:=HQ.out;omega
     have e1:IntKind.i64.wrap (q:Int) = (q:Int):=by simp only [IntKind.wrap_i64];omega
     have e2:(q:Int).toNat = q:=by omega
     have hsh:∀ w',(Op.shift BinOp.shr IntKind.u32 (t2:Int) IntKind.i64 (IntKind.i64.wrap (16 - IntKind.i64.wrap 0))).run Tryz.prog w' = .ok (.int .u32 ((t2:Int) / 65536)) w':=fun w'=>by
      rw [show IntKind.i64.wrap (16 - IntKind.i64.wrap 0) = 16 by decide]
      simp [go_sem]
     clear hcx hcy hx hxl
     go_wp2_with fail
     refine aN [0,0,2,0,14,31,63,0,128,0,512,1536,3968,8064,16383,32767,65535] 0 (fun w'=>w'.cell? ⟨g,q,none⟩ = some (.int .u8 (x:Nat)) /\ w'.cell? ⟨w.heap.size,1,none⟩ = some (.int .u32 (t2:Nat))) (by kernel_rfl) ?_
     refine aB [0,1,2,3,4,5,6,7,8,9,10,11,12,13,14,15] (by kernel_rfl) (L:=bm 17 65535) (by kernel_rfl) (f':=1) rfl (fun _ _ _ _ h=>h) (fun w o h=>((aP.cell _ _).and (aP.cell _ _)).alloc h o) (.inr XR.out) ?_
     simp only [sF,sL]
     iterate 16 (first | (refine aQ _ (by rfl) (fun w' hs=>by obtain ⟨y0,y1⟩:=hs;go_simp;try with_reducible rfl) rfl ?_;simp only [Act.put,sA]) | (refine aD _ (by rfl) (fun w'=>by go_simp;try with_reducible rfl) ?_;simp only [Act.put,sA]))
     refine aE ?_
     refine aI 16 (by kernel_rfl) (L:=bm 17 131071) (by kernel_rfl) ?_
     simp only [sL]
     have z0:=XR.out.1;have z1:=FR.out;go_wp2_with fail
     refine aF nofun ?_
     refine aT (by kernel_rfl) ?_
     go_wp2_with fail
     go_roundw
     case rel=>exact ⟨0 + 1,by omega,by first | rfl | go_num,by rw [HXV.out,tZ];exact HST.out.1,(by
      show (World.setCell _ _ _).cell? _ = _
      rw [World.cell?_setCell_other _ _ _ _ (by intro e;injection e with e1;omega)]
      exact CK.out),(BK.out.setCell (show w.heap.size <= g by omega) _).drew⟩
     case measure=>simp [intOf]
    ·clear hk hk3
     have hcx:=World.ownsRow.cellAt RK.out (q + 1) (by have:=HQ.out;omega)
     obtain ⟨x,hx,hxl⟩:∃ x:Nat,(tornTo b t2 1).getD (q + 1) 0 = x /\ x < 256:=⟨_,rfl,by
      rw [List.getD_eq_getElem?_getD]
      cases e:(tornTo b t2 1)[q + 1]? with
      | none=>simp
      | some x=>exact lH HBT.out t2 1 x (List.mem_of_getElem? e)⟩
     have hcy:wr.cell? ⟨g,q + 1,none⟩ = some (.int .u8 (x:Nat)):=by
      rw [hcx]
      have hlen:q + 1 < (tornTo b t2 1).length:=by rw [eT,HNB.out,HQ.out];omega
      rw [<- hx,List.getD_eq_getElem?_getD]
      unfold ints
      rw [List.map_map,List.getElem?_map,List.getElem?_eq_getElem hlen]
      rfl
     have HXV:Hid (tornTo b t2 (1 + 1) = (tornTo b t2 1).set (q + 1) (x ^^^ (t2 / 256 % 256))):=hid (by
      show (tornTo b t2 1).set (b.length - 3 + 1) ((tornTo b t2 1).getD (b.length - 3 + 1) 0 ^^^ _) = _
      rw [HNB.out,HQ.out,Nat.add_sub_cancel,show q + 1 = q + 1 from rfl,hx]
      all_goals simp)
     have HST:=hid (World.ownsRow.stored RK.out (q + 1) (.int .u8 ((x ^^^ (t2 / 256 % 256):Nat):Int)))
     have XR:Hid (wr.cell? ⟨g,q + 1,none⟩ = some (.int .u8 (x:Nat)) /\ wr.cell? ⟨w.heap.size,1,none⟩ = some (.int .u32 (t2:Nat))):=hid ⟨hcy,CK.out⟩
     have FR:Hid (wr.frozen? ⟨g,q + 1,none⟩ = false):=hid (World.ownsRow.frozenAt RK.out (q + 1))
     have hX:bits BinOp.xor .u8 (x:Int) ((t2:Int) / 256 % 256) = ((x ^^^ (t2 / 256 % 256):Nat):Int):=by
      rw [<- aKo x (t2 / 256 % 256) hxl (Nat.mod_lt _ (by decide))]
      rfl
     have i0:(0:Int) <= ((q:Int) + 1):=by omega
     have i1:((q:Int) + 1) < (n:Int):=by have:=HQ.out;omega
     have e1:IntKind.i64.wrap ((q:Int) + 1) = ((q:Int) + 1):=by simp only [IntKind.wrap_i64];omega
     have e2:((q:Int) + 1).toNat = q + 1:=by omega
     have hsh:∀ w',(Op.shift BinOp.shr IntKind.u32 (t2:Int) IntKind.i64 (IntKind.i64.wrap (16 - IntKind.i64.wrap 8))).run Tryz.prog w' = .ok (.int .u32 ((t2:Int) / 256)) w':=fun w'=>by
      rw [show IntKind.i64.wrap (16 - IntKind.i64.wrap 8) = 8 by decide]
      simp [go_sem]
     clear hcx hcy hx hxl
     go_wp2_with fail
     refine aN [0,0,2,0,14,31,63,0,128,0,512,1536,3968,8064,16383,32767,65535] 0 (fun w'=>w'.cell? ⟨g,q + 1,none⟩ = some (.int .u8 (x:Nat)) /\ w'.cell? ⟨w.heap.size,1,none⟩ = some (.int .u32 (t2:Nat))) (by kernel_rfl) ?_
     refine aB [0,1,2,3,4,5,6,7,8,9,10,11,12,13,14,15] (by kernel_rfl) (L:=bm 17 65535) (by kernel_rfl) (f':=1) rfl (fun _ _ _ _ h=>h) (fun w o h=>((aP.cell _ _).and (aP.cell _ _)).alloc h o) (.inr XR.out) ?_
     simp only [sF,sL]
     iterate 16 (first | (refine aQ _ (by rfl) (fun w' hs=>by obtain ⟨y0,y1⟩:=hs;go_simp;try with_reducible rfl) rfl ?_;simp only [Act.put,sA]) | (refine aD _ (by rfl) (fun w'=>by go_simp;try with_reducible rfl) ?_;simp only [Act.put,sA]))
     refine aE ?_
     refine aI 16 (by kernel_rfl) (L:=bm 17 131071) (by kernel_rfl) ?_
     simp only [sL]
     have z0:=XR.out.1;have z1:=FR.out;go_wp2_with fail
     refine aF nofun ?_
     refine aT (by kernel_rfl) ?_
     go_wp2_with fail
     go_roundw
     case rel=>exact ⟨1 + 1,by omega,by first | rfl | go_num,by rw [HXV.out,tZ];exact HST.out.1,(by
      show (World.setCell _ _ _).cell? _ = _
      rw [World.cell?_setCell_other _ _ _ _ (by intro e;injection e with e1;omega)]
      exact CK.out),(BK.out.setCell (show w.heap.size <= g by omega) _).drew⟩
     case measure=>simp [intOf]
    ·clear hk hk3
     have hcx:=World.ownsRow.cellAt RK.out (q + 2) (by have:=HQ.out;omega)
     obtain ⟨x,hx,hxl⟩:∃ x:Nat,(tornTo b t2 2).getD (q + 2) 0 = x /\ x < 256:=⟨_,rfl,by
      rw [List.getD_eq_getElem?_getD]
      cases e:(tornTo b t2 2)[q + 2]? with
      | none=>simp
      | some x=>exact lH HBT.out t2 2 x (List.mem_of_getElem? e)⟩
     have hcy:wr.cell? ⟨g,q + 2,none⟩ = some (.int .u8 (x:Nat)):=by
      rw [hcx]
      have hlen:q + 2 < (tornTo b t2 2).length:=by rw [eT,HNB.out,HQ.out];omega
      rw [<- hx,List.getD_eq_getElem?_getD]
      unfold ints
      rw [List.map_map,List.getElem?_map,List.getElem?_eq_getElem hlen]
      rfl
     have HXV:Hid (tornTo b t2 (2 + 1) = (tornTo b t2 2).set (q + 2) (x ^^^ (t2 % 256))):=hid (by
      show (tornTo b t2 2).set (b.length - 3 + 2) ((tornTo b t2 2).getD (b.length - 3 + 2) 0 ^^^ _) = _
      rw [HNB.out,HQ.out,Nat.add_sub_cancel,show q + 2 = q + 2 from rfl,hx]
      all_goals simp)
     have HST:=hid (World.ownsRow.stored RK.out (q + 2) (.int .u8 ((x ^^^ (t2 % 256):Nat):Int)))
     have XR:Hid (wr.cell? ⟨g,q + 2,none⟩ = some (.int .u8 (x:Nat)) /\ wr.cell? ⟨w.heap.size,1,none⟩ = some (.int .u32 (t2:Nat))):=hid ⟨hcy,CK.out⟩
     have FR:Hid (wr.frozen? ⟨g,q + 2,none⟩ = false):=hid (World.ownsRow.frozenAt RK.out (q + 2))
     have hX:bits BinOp.xor .u8 (x:Int) ((t2:Int) % 256) = ((x ^^^ (t2 % 256):Nat):Int):=by
      rw [<- aKo x (t2 % 256) hxl (Nat.mod_lt _ (by decide))]
      rfl
     have i0:(0:Int) <= ((q:Int) + 2):=by omega
     have i1:((q:Int) + 2) < (n:Int):=by have:=HQ.out;omega
     have e1:IntKind.i64.wrap ((q:Int) + 2) = ((q:Int) + 2):=by simp only [IntKind.wrap_i64];omega
     have e2:((q:Int) + 2).toNat = q + 2:=by omega
     have hsh:∀ w',(Op.shift BinOp.shr IntKind.u32 (t2:Int) IntKind.i64 (IntKind.i64.wrap (16 - IntKind.i64.wrap 16))).run Tryz.prog w' = .ok (.int .u32 ((t2:Int))) w':=fun w'=>by
      rw [show IntKind.i64.wrap (16 - IntKind.i64.wrap 16) = 0 by decide]
      simp [go_sem]
     clear hcx hcy hx hxl
     go_wp2_with fail
     refine aN [0,0,2,0,14,31,63,0,128,0,512,1536,3968,8064,16383,32767,65535] 0 (fun w'=>w'.cell? ⟨g,q + 2,none⟩ = some (.int .u8 (x:Nat)) /\ w'.cell? ⟨w.heap.size,1,none⟩ = some (.int .u32 (t2:Nat))) (by kernel_rfl) ?_
     refine aB [0,1,2,3,4,5,6,7,8,9,10,11,12,13,14,15] (by kernel_rfl) (L:=bm 17 65535) (by kernel_rfl) (f':=1) rfl (fun _ _ _ _ h=>h) (fun w o h=>((aP.cell _ _).and (aP.cell _ _)).alloc h o) (.inr XR.out) ?_
     simp only [sF,sL]
     iterate 16 (first | (refine aQ _ (by rfl) (fun w' hs=>by obtain ⟨y0,y1⟩:=hs;go_simp;try with_reducible rfl) rfl ?_;simp only [Act.put,sA]) | (refine aD _ (by rfl) (fun w'=>by go_simp;try with_reducible rfl) ?_;simp only [Act.put,sA]))
     refine aE ?_
     refine aI 16 (by kernel_rfl) (L:=bm 17 131071) (by kernel_rfl) ?_
     simp only [sL]
     have z0:=XR.out.1;have z1:=FR.out;go_wp2_with fail
     refine aF nofun ?_
     refine aT (by kernel_rfl) ?_
     go_wp2_with fail
     go_roundw
     case rel=>exact ⟨2 + 1,by omega,by first | rfl | go_num,by rw [HXV.out,tZ];exact HST.out.1,(by
      show (World.setCell _ _ _).cell? _ = _
      rw [World.cell?_setCell_other _ _ _ _ (by intro e;injection e with e1;omega)]
      exact CK.out),(BK.out.setCell (show w.heap.size <= g by omega) _).drew⟩
     case measure=>simp [intOf]
   ·obtain rfl:k = 3:=by omega
    go_wp2_with fail
    go_ret
    rw [HTL2.out]
    refine ⟨_,rfl,cL.lower (base:=w.heap.size + 1) ?_ (fun g' hg'=>?_),BK.out⟩
    ·unfold cL;rw [aX,eT,HNB.out];exact RK.out
    ·simp only [Value.ownBlock] at hg'
     have e:g = g':=Option.some.inj hg'
     show w.heap.size <= g'
     omega
 ·have hb3:¬ (3:Int) <= ((ints b).length:Int):=by rw [aX];omega
  have HTL2:Hid (cR l (t1,t2) = b):=hid (by rw [HTL.out,if_neg h3])
  obtain ⟨a3,c3,rfl⟩:=hown.shape
  clear hown h3
  go_wp2_with fail
  go_ret
  rw [HTL2.out]
  exact ⟨_,rfl,O2.out.lower (fun g hg=>by have:=(O2.out.lt g hg).1;omega),B2.out⟩
end Go.Proofs.YtjdglpcnkiioeaaGreat
