/- Several texts in one: Wxj, Wxk, Wxl, Wxm, Wxn for vltkeeps_law_holds. No conditions but those stated. -/
import Derived.Test.YtjdglpcnkiioeaaGreatVkb10
import Derived.Test.YtjdglpcnkiioeaaGreatVkb29
import Derived.Test.YtjdglpcnkiioeaaGreatVkb35
import Derived.Test.YtjdglpcnkiioeaaGreatVkb36
import Derived.Test.YtjdglpcnkiioeaaGreatVkb34
import Derived.Test.YtjdglpcnkiioeaaGreatVkb32
set_option maxHeartbeats 16000000
namespace Go.Proofs.YtjdglpcnkiioeaaGreat
open Go.Lib (hid)
open Go.RowKit Go.Maps Go.Proofs.Own Go.Shelf

theorem aAD (l:List Nat):bS l < 1152921504606846976:=by
 unfold bS
 split
 ·rename_i h
  cases e:hexF l.tail 0 with
  | none=>exact (by decide:(0:Nat) < 1152921504606846976)
  | some n =>
   have h1:=aBq e
   rw [List.length_tail,h.1] at h1
   have:(16:Nat) ^ (16 - 1) = 1152921504606846976:=by decide
   show n < _
   omega
 ·decide
theorem mQ (D:aA):dP D = (D.files.map (·.name)).filter isN:=by
 unfold dP dO
 rw [List.filter_map]
 rfl
theorem aDN (db mb tb:Nat) (D:aA) (w:World) (h:aG w db mb tb D) (hw:DWf D) :
  Calls Tryz.prog 22 #[.pointer (some ⟨db,0,none⟩)] w fun e w'=>∃ v base,e = .returned v /\ w'.ownsRow base 9 1 v (D.files.map (·.name)).length ((D.files.map (·.name)).map Value.string) /\ Below w.heap.size w w' /\ w.heap.size <= base:=by
 have H:=hid h
 have c0:=h.c0
 obtain ⟨vals,hm,_⟩:=h.fs
 have HM:=hid hm
 have HMX:Hid (Maps.size (dat vals D.files) <= maxLen /\ Maps.size (dat vals D.files) * 16 <= 140737488355328):=hid (by rw [mY];have:=hw.many;unfold maxLen;omega)
 clear h hm hw
 go_enter Tryz.func22,Tryz.ntmps22
 go_wp2_with fail
 refine (vZ db mb tb D _ H.out).mono ?_
 rintro e w1 ⟨rfl,rfl⟩
 go_wp2_with fail
 refine ((Go.callsIn_wide (n:=5)).1 (Tryz.maps_Keys_71 (some mb) w)).mono ?_
 rintro e w1 ⟨rfl,rfl⟩
 go_wp2_with fail
 refine ((Go.callsIn_wide (n:=5)).1 (Tryz.slices_Sorted_keys_70_71 mb _ _ _ w HM.out HMX.out.1 HMX.out.2)).mono ?_
 rintro e w2 ⟨v,ss,rfl,hS,hrow,hnil,hb⟩
 have HS:=hid hS
 have HR:=hid hrow
 have HB:=hid hb
 clear hS hrow hnil hb
 go_wp2_with fail
 go_ret
 have hsn:=tU HM.out.rising HS.out
 have hl:ss.length = (D.files.map (·.name)).length:=by rw [HS.out.length_eq];show ((D.files.map (ent vals)).map _).length = _;simp
 have hr:=HR.out
 rw [hsn,hl] at hr
 exact ⟨v,_,rfl,hr,((Below.refl _ _).alloc (Nat.le_refl _) _).trans (HB.out.mono (by simp)),by simp⟩
structure rN (t:Nat) (L:aM):Prop where
 ok:LOk L
 es:L.es.length <= 2097152 * t
 fs:L.fs.length <= t
theorem rN.take {t:Nat} {L:aM} (h:rN t L) (ht:t + 1 <= 1000) {first:Nat} {b:List Nat} {last:Bool} (h1:1 <= first) (h2:first < 1152921504606846976) (hb:b.length <= 2097152):rN (t + 1) (eO L first b last).2.1:=by
 have hk:=h.ok
 have he:=h.es
 have hf:=h.fs
 have hx:rN (t + 1) L:=⟨hk,by omega,by omega⟩
 have hfew:=aCZ b
 unfold eO
 split
 ·exact hx
 ·split
  ·exact hx
  ·refine ⟨⟨fun f hf=>?_,?_,?_,?_,?_,fun f hf=>?_⟩,?_,?_⟩
   ·rcases List.mem_append.1 hf with hf | hf
    ·exact hk.nm f hf
    ·obtain rfl:=List.mem_singleton.1 hf
     exact ⟨h1,h2⟩
   ·show rD (L.fs ++ [_]) <= (L.es ++ (fP b).es).length
    rw [nD,qQ,List.length_append]
    have:=hk.sum
    simp only
    omega
   ·show (L.es ++ (fP b).es).length <= _
    rw [List.length_append]
    omega
   ·show (if L.fs = [] then first - 1 else L.b) <= _
    have:=hk.b
    split <;> omega
   ·show L.safe <= (L.es ++ (fP b).es).length
    have:=hk.safe
    rw [List.length_append]
    omega
   ·rcases List.mem_append.1 hf with hf | hf
    ·exact hk.size f hf
    ·obtain rfl:=List.mem_singleton.1 hf
     show (fP b).g <= _
     omega
   ·show (L.es ++ (fP b).es).length <= _
    rw [List.length_append]
    omega
   ·show (L.fs ++ [_]).length <= _
    simp only [List.length_append,List.length_cons,List.length_nil]
    omega
theorem rN.more {t:Nat} {L:aM} (h:rN t L):rN (t + 1) L:=⟨h.ok,by have:=h.es;omega,by have:=h.fs;omega⟩

theorem aCJ {s:ByteArray} {r:List ByteArray} {D:aA} {L:aM} (h:bG D s ≠ 0):loadW (s :: r) D L = (D,L,bG D s):=by
 show (if bG D s ≠ 0 then _ else _) = _
 rw [if_pos h]
theorem uQ {s:ByteArray} {r:List ByteArray} {D:aA} {L:aM} (h:¬ bG D s ≠ 0) (ht:(eO L (bS (bF s)) (bT D s).all (decide (r = []))).1 = false) :
  loadW (s :: r) D L = if (removeD D s).2 ≠ 0 then ((removeD D s).1,(eO L (bS (bF s)) (bT D s).all (decide (r = []))).2.1,(removeD D s).2) else loadW r (removeD D s).1 (eO L (bS (bF s)) (bT D s).all (decide (r = []))).2.1:=by
 show (if bG D s ≠ 0 then _ else if _ = false then _ else _) = _
 rw [if_neg h,if_pos ht]
theorem uR {s:ByteArray} {r:List ByteArray} {D:aA} {L:aM} (h:¬ bG D s ≠ 0) (ht:¬ (eO L (bS (bF s)) (bT D s).all (decide (r = []))).1 = false) :
  loadW (s :: r) D L = if (eO L (bS (bF s)) (bT D s).all (decide (r = []))).2.2 ≠ 0 then (D,(eO L (bS (bF s)) (bT D s).all (decide (r = []))).2.1,(eO L (bS (bF s)) (bT D s).all (decide (r = []))).2.2) else loadW r D (eO L (bS (bF s)) (bT D s).all (decide (r = []))).2.1:=by
 show (if bG D s ≠ 0 then _ else if _ = false then _ else _) = _
 rw [if_neg h,if_neg ht]

set_option maxRecDepth 20000 in
theorem aKT {lb db mb tb:Nat} {ev fv:Value} {el:bE} {D:aA} {L:aM} {w:World} (h:bD w lb db mb tb ev fv el D L) (hg:aW D) (hok:rN 0 L) (hst:D.steps + D.files.length <= 1000000000) :
  Calls Tryz.prog 64 #[.pointer (some ⟨lb,0,none⟩)] w (fH lb db mb tb ev fv (loadW (dP D) D L) w):=by
 have HH:=hid h
 have HG:=hid hg
 have HOK:=hid hok
 have HST:=hid hst
 have c0:=h.c0
 obtain ⟨ns,hns⟩:∃ ns,dP D = ns:=⟨_,rfl⟩
 have HNS:=hid hns
 have hnsf:(D.files.map (·.name)).filter isN = ns:=by rw [<- hns,mQ]
 have hnl:ns.length <= D.files.length:=by rw [<- hnsf];exact Nat.le_trans (List.length_filter_le _ _) (by rw [List.length_map];exact Nat.le_refl _)
 have hfew:=hg.few
 have HNF:=hid hnsf
 have HNA:Hid (∀ s ∈ ns,isN s = true):=hid (fun s hs=>by rw [<- hnsf] at hs;exact (List.mem_filter.1 hs).2)
 have HDL:Hid ((D.files.map (·.name)).length <= 1000000):=hid (by rw [List.length_map];omega)
 have HSZ:Hid (∀ s ∈ ns,s.size <= maxLen):=hid (fun s hs=>by
  rw [<- hnsf] at hs
  obtain ⟨f,hf,rfl⟩:=List.mem_map.1 (List.mem_filter.1 hs).1
  exact Nat.le_trans (hg.wf.each f hf).1 (by decide))
 obtain ⟨n,hn⟩:∃ n,ns.length = n:=⟨_,rfl⟩
 have HN:=hid hn
 have hn128:(n:Int) <= 128:=by omega
 have HN1:Hid (n <= 128 /\ D.steps + n <= 1000000000):=hid ⟨by omega,by omega⟩
 rw [hns]
 clear h hg hok hst hns hnsf hnl hfew hn
 go_enter Tryz.func64,Tryz.ntmps64
 go_wp2_with fail
 refine (aDN db mb tb D w HH.out.dN HG.out.wf).mono ?_
 rintro e w1 ⟨v1,base,rfl,hrow,hb1,hbase⟩
 have HR:=hid hrow
 have B1:=hid hb1
 have HVB:Hid (∀ b,v1.ownBlock = some b -> w.heap.size <= b):=hid fun b hb=>Nat.le_trans hbase (World.ownsRow.lt hrow b hb).1
 obtain ⟨a1,m1,c1,rfl⟩:∃ a n c,v1 = Value.slice a n c:=by obtain ⟨⟨a,c,e,_⟩,_⟩:=aDa hrow;exact ⟨a,_,c,e⟩
 clear hrow hb1 hbase
 go_wp2_with fail
 refine (aJa HR.out HDL.out).mono ?_
 rintro e w2 ⟨v2,rfl,hS2,hk2,ho2⟩
 rw [HNF.out] at hS2
 have S2:=hid hS2
 have B2:Hid (Below w.heap.size w w2):=hid (B1.out.trans (hk2.below B1.out.size fun k e=>HVB.out k e))
 have L2:=hid (HH.out.below B2.out)
 have HVO:Hid (∀ b,v2.ownBlock = some b -> ¬ jR lb db mb tb ev fv b):=hid fun b hb hl=>by
  have h1:=HVB.out b (ho2 b hb)
  rcases hl with hl | hl | hl | hl
  ·have:=HH.out.lt;omega
  ·have:=HH.out.dN.lt3 _ hl;omega
  ·have:=HH.out.er.lt _ hl;omega
  ·have:=HH.out.fr.lt _ hl;omega
 obtain ⟨a2,c2,rfl,_⟩:=hS2
 rw [HN.out] at S2 HVO ⊢
 clear hk2 ho2 c0
 go_wp2_with fail
 go_loopw [4,5,6,7,8,9,10,19] (fun _ _ _ _ _ _ _ x19 wr=>∃ (t:Nat) (D':aA) (L':aM),t <= n /\ x19 = .int .i64 t /\ loadW (ns.drop t) D' L' = loadW ns D L /\ aHd lb db mb tb ev fv w2 D' L' wr /\ aW D' /\ D'.steps + (n - t:Nat) <= 1000000000 /\ rN t L') (fun _ _ _ _ _ _ _ x19 _=>n - (intOf x19).toNat)
 case atStart=>exact ⟨0,D,L,Nat.zero_le _,rfl,rfl,⟨ev,fv,el,L2.out,aS.refl _ _ _ _ _ _ _⟩,HG.out,by have:=HN1.out;omega,HOK.out⟩
 case round =>
  obtain ⟨t,D',L',ht,rfl,hr,⟨ev',fv',el',hl,hs⟩,hg,hst,hld⟩:=hrel
  have HLR:=hid hr
  have HL:=hid hl
  have HS:=hid hs
  have HG':=hid hg
  have HST':=hid hst
  have HLD:=hid hld
  clear hr hl hs hg hst hld
  by_cases hlt:t < n
  ·have htn:t < ns.length:=by rw [HN.out];exact hlt
   have SR:=S2.out.kept HS.out.1 HVO.out
   obtain ⟨a',c',e',hc'⟩:=SR
   obtain ⟨rfl,_,rfl⟩:=Value.slice.inj e'
   obtain ⟨b,o,rfl,hcell⟩:=hc' t htn
   obtain ⟨s,hs⟩:∃ s,ns[t] = s:=⟨_,rfl⟩
   rw [hs] at hcell
   have hsm:s ∈ ns:=hs ▸ List.getElem_mem htn
   have HDR:Hid (ns.drop t = s :: ns.drop (t + 1)):=hid (by rw [List.drop_eq_getElem_cons htn,hs])
   obtain ⟨f,hf⟩:∃ f,bS (bF s) = f:=⟨_,rfl⟩
   have HF:=hid hf
   have HF1:Hid (1 <= f /\ f < 1152921504606846976):=hid ⟨by
    have:=HNA.out s hsm
    unfold isN at this
    rw [decide_eq_true_iff,hf] at this
    omega,by rw [<- hf];exact aAD _⟩
   have HSS:=hid (HSZ.out s hsm)
   obtain ⟨lt,hlt'⟩:∃ lt:Bool,decide (ns.drop (t + 1) = []) = lt:=⟨_,rfl⟩
   have HLT:=hid hlt'
   have hlb:((t:Int) == (n:Int) - 1) = lt:=by
    rw [<- hlt',Bool.eq_iff_iff,beq_iff_eq,decide_eq_true_iff,List.drop_eq_nil_iff,HN.out]
    omega
   have hnw:IntKind.i64.wrap ((n:Int) - 1) = (n:Int) - 1:=by simp only [IntKind.wrap_i64];omega
   have t0:(0:Int) <= (t:Int):=by omega
   have t1:(t:Int) < (n:Int):=by omega
   have HT:Hid (t + 1 <= 1000):=hid (by have:=HN1.out;omega)
   clear hs hsm hf hlt' hc' htn
   go_wp2_with fail
   refine (yL s wr).mono ?_
   rintro e u1 ⟨rfl,hu1⟩
   rw [HF.out]
   obtain ⟨bz,hbz⟩:∃ bz:Bool,decide (f ≠ 0) = bz:=⟨_,rfl⟩
   rw [hbz]
   have U1:=hid hu1
   have LU:=hid (HL.out.below hu1)
   have SU:Hid (aS lb db mb tb w2 ev fv u1 ev' fv'):=hid (HS.out.trans (aS.below hu1))
   have cu:=LU.out.c0
   clear hu1 hbz hcell
   by_cases hfe:bG D' s ≠ 0
   ·obtain ⟨k,hk⟩:∃ k,bG D' s = k:=⟨_,rfl⟩
    have HK:=hid hk
    have HFE:=hid hfe
    have hkb:((k:Int) != 0) = true:=by rw [hk] at hfe;simp;omega
    clear hfe
    go_wp2_with fail
    refine (iZ db mb tb D' s u1 LU.out.dN HSS.out HFE.out).mono ?_
    rintro e u2 ⟨rfl,hu2⟩
    rw [hk]
    have LU2:=hid (LU.out.below hu2)
    have SU2:Hid (aS lb db mb tb w2 ev fv u2 ev' fv'):=hid (SU.out.trans (aS.below hu2))
    clear hu2 hk
    go_wp2_with fail
    go_ret
    rw [<- HLR.out,HDR.out,aCJ HFE.out]
    have SF:=(aS.below (lb:=lb) (db:=db) (mb:=mb) (tb:=tb) (ev:=ev) (fv:=fv) B2.out).trans SU2.out
    exact ⟨by rw [HK.out];rfl,_,_,_,LU2.out,SF.1,SF.2.1,SF.2.2⟩
   ·have HFE:=hid hfe
    have hfe0:bG D' s = 0:=Classical.not_not.1 hfe
    obtain ⟨hdn,fl,hfi⟩:=pJ hfe0
    have HGF:Hid (bT D' s = fl):=hid (by unfold bT;rw [hfi];rfl)
    have HDN:=hid hdn
    have HFI:=hid hfi
    clear hfe hfe0 hdn hfi
    go_wp2_with fail
    refine (kI db mb tb D' s fl u1 LU.out.dN HDN.out HSS.out HFI.out).mono ?_
    rintro e u2 ⟨bv,rfl,hB2,hu2⟩
    have HB2:=hid hB2
    have LU2:=hid (LU.out.below hu2)
    have SU2:Hid (aS lb db mb tb w2 ev fv u2 ev' fv'):=hid (SU.out.trans (aS.below hu2))
    obtain ⟨ba,bc,rfl,_⟩:=hB2.shape
    have HSM:Hid (fl.all.length <= 2097152):=hid hB2.small
    clear hB2 hu2
    go_wp2_with fail
    refine (aKV LU2.out HB2.out f lt HF1.out.1 HF1.out.2 HLD.out.ok.b (by have:=HLD.out.es;have:=HSM.out;have:=HT.out;omega) (by have:=HLD.out.fs;have:=HT.out;omega)).mono ?_
    rintro e u3 ⟨rfl,ev3,fv3,el3,hl3,hs3⟩
    obtain ⟨R,hR⟩:∃ R,eO L' f fl.all lt = R:=⟨_,rfl⟩
    have HRR:Hid (eO L' (bS (bF s)) (bT D' s).all (decide (ns.drop (t + 1) = [])) = R):=hid (by rw [HF.out,HGF.out,HLT.out];exact hR)
    rw [hR] at hl3 ⊢
    obtain ⟨is,L3,k3⟩:=R
    simp only at hl3 ⊢
    have HLK:Hid (rN (t + 1) L3):=hid (by have h:=HLD.out.take HT.out (first:=f) (b:=fl.all) (last:=lt) HF1.out.1 HF1.out.2 HSM.out;rw [hR] at h;exact h)
    have LU3:=hid hl3
    have SU3:=hid (SU2.out.trans hs3)
    have cu3:=LU3.out.c0
    clear hl3 hs3 hR cu
    cases is with
    | true =>
     by_cases hk0:k3 = 0
     ·have hkb:((k3:Int) != 0) = false:=by rw [hk0];rfl
      have HK0:=hid hk0
      clear hk0
      go_wp2_with fail
      go_roundw
      case rel =>
       refine ⟨t + 1,D',L3,by omega,by go_num,?_,⟨_,_,_,LU3.out,SU3.out⟩,HG'.out,by have:=HST'.out;omega,HLK.out⟩
       rw [<- HLR.out,HDR.out,uR HFE.out (by rw [HRR.out];simp),HRR.out]
       rw [if_neg (fun h=>h HK0.out)]
      case measure=>simp [intOf];omega
     ·have hkb:((k3:Int) != 0) = true:=by simp;omega
      have HK0:=hid hk0
      clear hk0
      go_wp2_with fail
      go_ret
      rw [<- HLR.out,HDR.out,uR HFE.out (by rw [HRR.out];simp),HRR.out,if_pos HK0.out]
      have SF:=(aS.below (lb:=lb) (db:=db) (mb:=mb) (tb:=tb) (ev:=ev) (fv:=fv) B2.out).trans SU3.out
      exact ⟨rfl,_,_,_,LU3.out,SF.1,SF.2.1,SF.2.2⟩
    | false =>
     go_wp2_with fail
     refine (kJ db mb tb D' s u3 LU3.out.dN HG'.out.wf HSS.out).mono ?_
     rintro e u4 ⟨rfl,hd4,hk4⟩
     have LU4:=hid (LU3.out.jT hd4 hk4)
     have SU4:=hid (SU3.out.trans (aS.dN hk4))
     have HG4:=hid (HG'.out.remove s (by have:=HST'.out;omega))
     obtain ⟨k4,hk4'⟩:∃ k,(removeD D' s).2 = k:=⟨_,rfl⟩
     have HK4:=hid hk4'
     rw [hk4']
     clear hd4 hk4 hk4' cu3
     by_cases hk0:k4 = 0
     ·have hkb:((k4:Int) != 0) = false:=by rw [hk0];rfl
      have HK0:Hid ((removeD D' s).2 = 0):=hid (HK4.out.trans hk0)
      clear hk0
      go_wp2_with fail
      go_roundw
      case rel =>
       refine ⟨t + 1,(removeD D' s).1,L3,by omega,by go_num,?_,⟨_,_,_,LU4.out,SU4.out⟩,HG4.out.1,by have:=HST'.out;have:=HG4.out.2;omega,HLK.out⟩
       rw [<- HLR.out,HDR.out,uQ HFE.out (by rw [HRR.out]),HRR.out]
       rw [if_neg (fun h=>h HK0.out)]
      case measure=>simp [intOf];omega
     ·have hkb:((k4:Int) != 0) = true:=by simp;omega
      have HK0:Hid ((removeD D' s).2 ≠ 0):=hid (by rw [HK4.out];exact hk0)
      clear hk0
      go_wp2_with fail
      go_ret
      rw [<- HLR.out,HDR.out,uQ HFE.out (by rw [HRR.out]),HRR.out,if_pos HK0.out]
      have SF:=(aS.below (lb:=lb) (db:=db) (mb:=mb) (tb:=tb) (ev:=ev) (fv:=fv) B2.out).trans SU4.out
      exact ⟨by rw [HK4.out];rfl,_,_,_,LU4.out,SF.1,SF.2.1,SF.2.2⟩
  ·have htn:t = n:=by omega
   have HTN:Hid (ns.drop t = []):=hid (List.drop_eq_nil_iff.2 (by rw [HN.out];omega))
   have t1:¬ (t:Int) < (n:Int):=by omega
   have tn:(t:Int) = (n:Int):=by omega
   clear htn
   go_wp2_with fail
   go_ret
   rw [<- HLR.out,HTN.out]
   have SF:=(aS.below (lb:=lb) (db:=db) (mb:=mb) (tb:=tb) (ev:=ev) (fv:=fv) B2.out).trans HS.out
   exact ⟨rfl,_,_,_,HL.out,SF.1,SF.2.1,SF.2.2⟩

theorem qK {f:aO}:∀ {L:List aO},f ∈ L -> f.all.length <= total L
 | g :: r,h=>by
  have e:total (g :: r) = g.all.length + total r:=rfl
  rcases List.mem_cons.1 h with rfl | h
  ·omega
  ·have:=qK h
   omega
theorem aDY {D:aA} (h:aW D) (n:ByteArray):(bT D n).all.length <= 2097152:=by
 unfold bT
 cases e:aC n D.files with
 | none=>simp
 | some f =>
  have h1:=qK (cF e).2
  have h2:=h.tot
  simp only [Option.getD_some]
  omega
theorem aBx:∀ (ns:List ByteArray) (t:Nat) (D:aA) (L:aM),rN t L -> t + ns.length <= 1000 -> aW D -> D.steps + ns.length <= 1000000000 -> (∀ s ∈ ns,isN s = true) ->
  rN (t + ns.length) (loadW ns D L).2.1 /\ aW (loadW ns D L).1 /\ (loadW ns D L).1.steps <= D.steps + ns.length
 | [],t,D,L,h,_,hg,_,_=>⟨h,hg,by show D.steps <= D.steps + ((0:Nat):Int);omega⟩
 | s :: r,t,D,L,h,ht,hg,hs,hn=>by
  have hl:(s :: r).length = r.length + 1:=rfl
  rw [hl] at ht hs
  have h1:=hn s (List.mem_cons_self ..)
  have hf1:1 <= bS (bF s):=by
   unfold isN at h1
   rw [decide_eq_true_iff] at h1
   omega
  have hr:∀ x ∈ r,isN x = true:=fun x hx=>hn x (List.mem_cons_of_mem _ hx)
  have hT:=h.take (by omega) (first:=bS (bF s)) (b:=(bT D s).all) (last:=decide (r = [])) hf1 (aAD _) (aDY hg s)
  have up:∀ {L':aM},rN (t + 1) L' -> rN (t + (s :: r).length) L':=fun {L'} q=>⟨q.ok,by have:=q.es;rw [hl];omega,by have:=q.fs;rw [hl];omega⟩
  have e1:t + (s :: r).length = (t + 1) + r.length:=by rw [hl];omega
  by_cases hfe:bG D s ≠ 0
  ·rw [aCJ hfe]
   exact ⟨up h.more,hg,by simp only;rw [hl];omega⟩
  ·by_cases hd:(eO L (bS (bF s)) (bT D s).all (decide (r = []))).1 = false
   ·rw [uQ hfe hd]
    have g:=hg.remove s (by omega)
    split
    ·exact ⟨up hT,g.1,by have:=g.2;simp only;rw [hl];omega⟩
    ·have ih:=aBx r (t + 1) _ _ hT (by omega) g.1 (by have:=g.2;omega) hr
     rw [e1]
     exact ⟨ih.1,ih.2.1,by have:=g.2;have:=ih.2.2;rw [hl];omega⟩
   ·rw [uR hfe hd]
    split
    ·exact ⟨up hT,hg,by simp only;rw [hl];omega⟩
    ·have ih:=aBx r (t + 1) _ _ hT (by omega) hg (by omega) hr
     rw [e1]
     exact ⟨ih.1,ih.2.1,by have:=ih.2.2;rw [hl];omega⟩
theorem aC0 {D:aA} (L:aM) (h:aW D) (hs:D.steps + 2 <= 1000000000):aW (bQ D L).1 /\ (bQ D L).1.steps <= D.steps + 2:=by
 unfold bQ
 cases L.fs.getLast? with
 | none=>exact ⟨h,by simp only;omega⟩
 | some f =>
  simp only
  split
  ·exact ⟨h,by simp only;omega⟩
  ·split
   ·have g:=h.cut (aH f.f) f.s (by omega)
    split
    ·exact ⟨g.1,by have:=g.2;omega⟩
    ·have k:=g.1.sync (aH f.f) (by have:=g.2;omega)
     exact ⟨k.1,by have:=g.2;have:=k.2;omega⟩
   ·have k:=h.sync (aH f.f) (by omega)
    exact ⟨k.1,by have:=k.2;omega⟩
theorem aJB {lb db mb tb:Nat} {ev fv:Value} {el:bE} {D:aA} {L:aM} {w:World} (h:bD w lb db mb tb ev fv el D L) (hg:aW D) (hst:D.steps + 2 <= 1000000000) (hok:LOk L) (hs:L.fs.length <= 1000000) :
  Calls Tryz.prog 65 #[.pointer (some ⟨lb,0,none⟩)] w (fH lb db mb tb ev fv ((bQ D L).1,L,(bQ D L).2) w):=by
 cases e:L.fs.getLast? with
 | none=>exact aDx h (List.getLast?_eq_none_iff.1 e)
 | some f =>
  have hsz:(f.s:Int) <= 2097152:=by have:=hok.size f (List.mem_of_getLast? e);omega
  by_cases hfe:bG D (aH f.f) = 0
  ·by_cases hlt:f.s < (bT D (aH f.f)).all.length
   ·exact aDv h hg hst hok.nm e hs hsz hfe hlt
   ·exact aBZ h hg hst hok.nm e hs hsz hfe hlt
  ·exact aDw h hg hst hok.nm e hs hsz hfe
theorem uI (db mb tb:Nat) (D:aA) (n:ByteArray) (w:World) (h:aG w db mb tb D) (hn:n.size <= maxLen) :
  Calls Tryz.prog 23 #[.pointer (some ⟨db,0,none⟩),.string n] w fun e w'=>∃ a m c,e = .returned (.tuple #[.slice a m c,.int .i64 (bG D n)]) /\ Below w.heap.size w w':=by
 by_cases hfe:bG D n = 0
 ·obtain ⟨hd,f,hf⟩:=pJ hfe
  refine (kI db mb tb D n f w h hd hn hf).mono ?_
  rintro e w' ⟨v,rfl,hB,hb⟩
  obtain ⟨a,c,rfl,_⟩:=hB.shape
  exact ⟨a,_,c,by rw [hfe];rfl,hb⟩
 ·refine (iZ db mb tb D n w h hn hfe).mono ?_
  rintro e w' ⟨rfl,hb⟩
  exact ⟨none,0,0,rfl,hb⟩
def aDz (db mb tb:Nat) (r:aA × Option aM × Nat) (w:World):Ending -> World -> Prop:=fun E w' =>
 aG w' db mb tb r.1 /\ Kept w w' (bB db mb tb) /\ (r.2.1 = none -> E = .returned (.tuple #[.pointer none,.int .i64 r.2.2])) /\
  ∀ L,r.2.1 = some L -> ∃ lb ev fv el,E = .returned (.tuple #[.pointer (some ⟨lb,0,none⟩),.int .i64 r.2.2]) /\ bD w' lb db mb tb ev fv el r.1 L /\ w.heap.size <= lb /\ (∀ b,ev.ownBlock = some b -> w.heap.size <= b) /\ ∀ b,fv.ownBlock = some b -> w.heap.size <= b
theorem gI {lb db mb tb:Nat} {w w0 w':World} {ev fv:Value} (hb:Below w.heap.size w w0) (hl:w.heap.size <= lb) (hs:aS lb db mb tb w0 (.slice none 0 0) (.slice none 0 0) w' ev fv) :
  Kept w w' (bB db mb tb) /\ (∀ b,ev.ownBlock = some b -> w.heap.size <= b) /\ ∀ b,fv.ownBlock = some b -> w.heap.size <= b:=by
 refine ⟨(Kept.aJ hb (S:=fun _=>False) fun k h1 h2=>by omega).andThen hs.1 fun k hk h=>?_,fun b hb2=>?_,fun b hb2=>?_⟩
 ·rcases h with h | h | h | h | h
  ·exact h.elim
  ·omega
  ·exact h
  ·cases h
  ·cases h
 ·rcases hs.2.1 b hb2 with h | h
  ·cases h
  ·exact Nat.le_trans hb.size h
 ·rcases hs.2.2 b hb2 with h | h
  ·cases h
  ·exact Nat.le_trans hb.size h

set_option maxRecDepth 20000 in
theorem aDt {db mb tb:Nat} {D:aA} {w:World} (h:aG w db mb tb D) (base:Nat) (he:D.down = true \/ H59 <= base) :
  Calls Tryz.prog 19 #[.pointer (some ⟨db,0,none⟩),.int .u64 base] w (aDz db mb tb (fD D base) w):=by
 have HH:=hid h
 clear h
 by_cases hd:D.down = true
 ·have HR:Hid (fD D base = (D,none,50)):=hid (by unfold fD;rw [if_pos hd])
  have HF:Hid (bG D ⟨#[]⟩ = 50):=hid (by unfold bG;rw [if_pos hd])
  clear hd he
  go_enter Tryz.func19,Tryz.ntmps19
  go_wp2_with fail
  refine (uI db mb tb D ⟨#[]⟩ w HH.out (by decide)).mono ?_
  rintro e w1 ⟨a,m,c,rfl,hb⟩
  rw [HF.out]
  have B1:=hid hb
  clear hb
  go_wp2_with fail
  go_ret2
  rw [HR.out]
  exact ⟨HH.out.below B1.out,Kept.aJ B1.out fun k h1 h2=>by omega,fun _=>rfl,nofun⟩
 ·have hb:=he.resolve_left hd
  have HR:Hid (fD D base = (D,none,2)):=hid (by unfold fD;rw [if_neg hd,if_pos hb])
  obtain ⟨k,hk⟩:∃ k,bG D ⟨#[]⟩ = k:=⟨_,rfl⟩
  have hk3:k ≠ 1 /\ k ≠ 50:=by
   rw [<- hk]
   unfold bG
   rw [if_neg hd]
   split <;> decide
  have k1:((k:Int) == 1) = false:=by simp;omega
  have k2:((k:Int) == 50) = false:=by simp;omega
  obtain ⟨bz,hbz⟩:∃ bz:Int,(base:Int) = bz:=⟨_,rfl⟩
  have hbi:(576460752303423488:Int) <= bz:=by unfold H59 at hb;omega
  rw [hbz]
  have HK:=hid hk
  clear hd he hb hk hk3 hbz
  go_enter Tryz.func19,Tryz.ntmps19
  go_wp2_with fail
  refine (uI db mb tb D ⟨#[]⟩ w HH.out (by decide)).mono ?_
  rintro e w1 ⟨a,m,c,rfl,hb⟩
  rw [HK.out]
  have B1:=hid hb
  clear hb
  go_wp2_with fail
  go_ret2
  rw [HR.out]
  exact ⟨HH.out.below B1.out,Kept.aJ B1.out fun k h1 h2=>by omega,fun _=>rfl,nofun⟩

set_option maxRecDepth 100000 in
theorem aEU {db mb tb:Nat} {D:aA} {w:World} (h:aG w db mb tb D) (hg:aW D) (hst:D.steps + 1000 <= 1000000000) (base:Nat) (hd:¬ D.down = true) (hb:¬ H59 <= base) :
  Calls Tryz.prog 19 #[.pointer (some ⟨db,0,none⟩),.int .u64 base] w (aDz db mb tb (fD D base) w):=by
 have HH:=hid h
 have HG:=hid hg
 have hfew:=hg.few
 obtain ⟨r1,hr1⟩:∃ r,loadW (dP D) D ⟨0,[],[],0⟩ = r:=⟨_,rfl⟩
 have hlo:rN 0 ⟨0,[],[],0⟩:=⟨⟨nofun,by simp [rD],by simp,by simp,by simp,nofun⟩,by simp,by simp⟩
 have HLO:=hid hlo
 have hnl:(dP D).length <= 128:=by
  rw [mQ]
  refine Nat.le_trans (List.length_filter_le _ _) ?_
  rw [List.length_map]
  exact hfew
 have hlk:=aBx (dP D) 0 D ⟨0,[],[],0⟩ hlo (by omega) hg (by omega) (fun s hs=>by rw [mQ] at hs;exact (List.mem_filter.1 hs).2)
 rw [hr1] at hlk
 obtain ⟨D1,L1,k1⟩:=r1
 have HOP:Hid (fD D base = if k1 ≠ 0 then (D1,none,k1) else pU D1 L1 base):=hid (by
  unfold fD
  rw [if_neg hd,if_neg hb,hr1])
 have HR1:=hid hr1
 have HLK:Hid (LOk L1 /\ L1.fs.length <= 128 /\ aW D1 /\ D1.steps <= D.steps + 128):=hid ⟨hlk.1.ok,by have:=hlk.1.fs;simp only at this;omega,hlk.2.1,by have:=hlk.2.2;simp only at this;omega⟩
 have HST:=hid hst
 obtain ⟨k,hk⟩:∃ k,bG D ⟨#[]⟩ = k:=⟨_,rfl⟩
 have hk3:k ≠ 1 /\ k ≠ 50:=by
  rw [<- hk]
  unfold bG
  rw [if_neg hd]
  split <;> decide
 have q1:((k:Int) == 1) = false:=beq_eq_false_iff_ne.2 (by omega)
 have q2:((k:Int) == 50) = false:=beq_eq_false_iff_ne.2 (by omega)
 obtain ⟨bz,hbz⟩:∃ bz:Int,(base:Int) = bz:=⟨_,rfl⟩
 have hbi:bz < 576460752303423488:=by unfold H59 at hb;omega
 have HBZ:=hid hbz
 rw [hbz]
 have HK:=hid hk
 have HDF:Hid (D.steps + D.files.length <= 1000000000):=hid (by omega)
 clear h hg hst hd hb hk hk3 hbz hfew hr1 hlo hnl hlk
 go_enter Tryz.func19,Tryz.ntmps19
 go_wp2_with fail
 refine (uI db mb tb D ⟨#[]⟩ w HH.out (by decide)).mono ?_
 rintro e w1 ⟨a,m,c,rfl,hb1⟩
 rw [HK.out]
 have B1:=hid hb1
 clear hb1
 go_wp2_with fail
 have LN:=hid (bD.new (HH.out.below B1.out))
 have B2:Hid (Below w.heap.size w (w1.alloc (.cells #[.pointer (some ⟨db,0,none⟩),.int .u64 0,.slice none 0 0,.slice none 0 0,.int .i64 0] 34))):=hid (B1.out.alloc B1.out.size _)
 have HLB:Hid (w.heap.size <= w1.heap.size):=hid B1.out.size
 obtain ⟨lb,hlb⟩:∃ lb,w1.heap.size = lb:=⟨_,rfl⟩
 rw [hlb] at LN HLB ⊢
 generalize World.alloc w1 _ = w2 at *
 clear hlb B1
 refine (aKT LN.out HG.out HLO.out HDF.out).mono ?_
 rintro e w3 ⟨rfl,ev3,fv3,el3,hl3,hs3⟩
 rw [HR1.out] at hl3 ⊢
 simp only at hl3 ⊢
 have L3:=hid hl3
 have S3:Hid (aS lb db mb tb w2 (.slice none 0 0) (.slice none 0 0) w3 ev3 fv3):=hid hs3
 clear hl3 hs3
 by_cases hk1:k1 = 0
 ·have hkb:((k1:Int) != 0) = false:=by rw [hk1];rfl
  have HK1:=hid hk1
  clear hk1
  go_wp2_with fail
  refine (aJB L3.out HLK.out.2.2.1 (by have:=HLK.out.2.2.2;have:=HST.out;omega) HLK.out.1 (by have:=HLK.out.2.1;omega)).mono ?_
  rintro e w4 ⟨rfl,ev4,fv4,el4,hl4,hs4⟩
  have HSG:=hid (aC0 L1 HLK.out.2.2.1 (by have:=HLK.out.2.2.2;have:=HST.out;omega))
  have HOE:Hid (fD D base = if (bQ D1 L1).2 ≠ 0 then ((bQ D1 L1).1,none,(bQ D1 L1).2) else iS (bQ D1 L1).1 L1 base):=hid (by rw [HOP.out,if_neg fun h=>h HK1.out];rfl)
  have L4:=hid hl4
  have S4:=hid (S3.out.trans hs4)
  simp only at L4 ⊢
  clear hl4 hs4
  generalize (bQ D1 L1).1 = D4 at *
  generalize (bQ D1 L1).2 = k4 at *
  by_cases hk4:k4 = 0
  ·have hkb4:((k4:Int) != 0) = false:=by rw [hk4];rfl
   have HK4:=hid hk4
   clear hk4
   have c3:=L4.out.c3
   obtain ⟨fa,fc,rfl,_⟩:=L4.out.oL
   obtain ⟨n,hn⟩:∃ n,L1.fs.length = n:=⟨_,rfl⟩
   have HN:=hid hn
   rw [hn] at c3 L4 S4
   clear hn
   by_cases hn0:n = 0
   ·have z0:(n:Int) = 0:=by omega
    have HC:Hid (L1.fs = [] \/ L1.last < base):=hid (.inl (List.eq_nil_of_length_eq_zero (HN.out.trans hn0)))
    rw [hn0] at c3
    clear hn0
    go_wp2_with fail
    have WR:=qG L4.out HSG.out.1 HLK.out.1 (by have:=HSG.out.2;have:=HLK.out.2.2.2;have:=HST.out;have:=HLK.out.2.1;omega) (by have:=HLK.out.2.1;omega) base
    rw [HBZ.out] at WR
    refine WR.mono ?_
    clear WR
    rintro e w6 ⟨rfl,ev6,fv6,el6,hl6,hs6⟩
    have HCW:Hid (iS D4 L1 base = if (bI D4 L1 base).2.2 ≠ 0 then ((bI D4 L1 base).1,none,(bI D4 L1 base).2.2) else if base < (bI D4 L1 base).2.1.b then ((bI D4 L1 base).1,none,20) else ((bI D4 L1 base).1,some { (bI D4 L1 base).2.1 with safe:=(bI D4 L1 base).2.1.es.length },0)):=hid (by unfold iS;rw [if_pos HC.out])
    have L6:=hid hl6
    have S6:=hid (S4.out.trans hs6)
    clear hl6 hs6
    generalize (bI D4 L1 base).1 = D6 at *
    generalize (bI D4 L1 base).2.1 = L6s at *
    generalize (bI D4 L1 base).2.2 = k6 at *
    by_cases hk6:k6 = 0
    ·have hkb6:((k6:Int) != 0) = false:=by rw [hk6];rfl
     have HK6:=hid hk6
     clear hk6
     have cb:=L6.out.c1
     obtain ⟨bv,hbv⟩:∃ bv:Int,(L6s.b:Int) = bv:=⟨_,rfl⟩
     have HBV:=hid hbv
     rw [hbv] at cb
     clear hbv
     obtain ⟨ea,ec,rfl,_⟩:=L6.out.fU
     have c2:=L6.out.c2
     have c4:=L6.out.c4
     have f4:=L6.out.fz 4 (by decide) (by decide)
     by_cases hbb:base < L6s.b
     ·have hbbi:decide (bz < bv) = true:=decide_eq_true (by have:=HBZ.out;have:=HBV.out;omega)
      have HBB:=hid hbb
      clear hbb
      go_wp2_with fail
      go_ret2
      rw [HOE.out,if_neg fun h=>h HK4.out,HCW.out,if_neg (fun h=>h HK6.out),if_pos HBB.out]
      have o:=gI B2.out HLB.out S6.out
      exact ⟨L6.out.dN,o.1,fun _=>rfl,nofun⟩
     ·have hbbi:decide (bz < bv) = false:=decide_eq_false (by have:=HBZ.out;have:=HBV.out;omega)
      have HBB:=hid hbb
      clear hbb
      go_wp2_with fail
      go_ret2
      rw [HOE.out,if_neg fun h=>h HK4.out,HCW.out,if_neg (fun h=>h HK6.out),if_neg HBB.out]
      have hfin:=L6.out.iE L6s.es.length
      have hS:=S6.out.trans (aS.own (Kept.setCell w6 ⟨lb,4,none⟩ (.int .i64 L6s.es.length)))
      have o:=gI B2.out HLB.out hS
      refine ⟨hfin.dN,o.1,nofun,fun L hL=>?_⟩
      obtain rfl:=Option.some.inj hL
      exact ⟨lb,_,_,_,rfl,hfin,HLB.out,o.2.1,o.2.2⟩
    ·have hkb6:((k6:Int) != 0) = true:=by simp;omega
     have HK6:=hid hk6
     clear hk6
     go_wp2_with fail
     go_ret2
     rw [HOE.out,if_neg fun h=>h HK4.out,HCW.out,if_pos HK6.out]
     have o:=gI B2.out HLB.out S6.out
     exact ⟨L6.out.dN,o.1,fun _=>rfl,nofun⟩
   ·have n1:0 < n:=by omega
    have bn0:((n:Int) == 0) = false:=beq_eq_false_iff_ne.2 (by omega)
    have HNE:Hid (¬ L1.fs = []):=hid (fun e=>hn0 (by rw [<- HN.out,e];rfl))
    clear hn0
    have hla1:(L1.last:Int) < 18446744073709551616:=by have:=HLK.out.1.last;omega
    have HLA:=hid hla1
    obtain ⟨la,hla⟩:∃ la,L1.last = la:=⟨_,rfl⟩
    have HLL:=hid hla
    clear hla1 hla
    go_wp2_with fail
    refine (iI L4.out HLA.out).mono ?_
    rintro e w5 ⟨rfl,hb5⟩
    obtain ⟨lz,hlz⟩:∃ lz:Int,(la:Int) = lz:=⟨_,rfl⟩
    have HLZ:=hid hlz
    rw [HLL.out,hlz]
    clear hlz
    have L5:=hid (L4.out.below hb5)
    have S5:=hid (S4.out.trans (aS.below hb5))
    clear hb5 c3
    by_cases hlt:la < base
    ·have hlti:decide (lz < bz) = true:=decide_eq_true (by have:=HBZ.out;have:=HLZ.out;omega)
     have HC:Hid (L1.fs = [] \/ L1.last < base):=hid (.inr (by rw [HLL.out];exact hlt))
     clear hlt
     go_wp2_with fail
     have WR:=qG L5.out HSG.out.1 HLK.out.1 (by have:=HSG.out.2;have:=HLK.out.2.2.2;have:=HST.out;have:=HLK.out.2.1;omega) (by have:=HLK.out.2.1;omega) base
     rw [HBZ.out] at WR
     refine WR.mono ?_
     clear WR
     rintro e w6 ⟨rfl,ev6,fv6,el6,hl6,hs6⟩
     have HCW:Hid (iS D4 L1 base = if (bI D4 L1 base).2.2 ≠ 0 then ((bI D4 L1 base).1,none,(bI D4 L1 base).2.2) else if base < (bI D4 L1 base).2.1.b then ((bI D4 L1 base).1,none,20) else ((bI D4 L1 base).1,some { (bI D4 L1 base).2.1 with safe:=(bI D4 L1 base).2.1.es.length },0)):=hid (by unfold iS;rw [if_pos HC.out])
     have L6:=hid hl6
     have S6:=hid (S5.out.trans hs6)
     clear hl6 hs6
     generalize (bI D4 L1 base).1 = D6 at *
     generalize (bI D4 L1 base).2.1 = L6s at *
     generalize (bI D4 L1 base).2.2 = k6 at *
     by_cases hk6:k6 = 0
     ·have hkb6:((k6:Int) != 0) = false:=by rw [hk6];rfl
      have HK6:=hid hk6
      clear hk6
      clear hlti n1 bn0
      have cb:=L6.out.c1
      obtain ⟨bv,hbv⟩:∃ bv:Int,(L6s.b:Int) = bv:=⟨_,rfl⟩
      have HBV:=hid hbv
      rw [hbv] at cb
      clear hbv
      obtain ⟨ea,ec,rfl,_⟩:=L6.out.fU
      have c2:=L6.out.c2
      have c4:=L6.out.c4
      have f4:=L6.out.fz 4 (by decide) (by decide)
      by_cases hbb:base < L6s.b
      ·have hbbi:decide (bz < bv) = true:=decide_eq_true (by have:=HBZ.out;have:=HBV.out;omega)
       have HBB:=hid hbb
       clear hbb
       go_wp2_with fail
       go_ret2
       rw [HOE.out,if_neg fun h=>h HK4.out,HCW.out,if_neg (fun h=>h HK6.out),if_pos HBB.out]
       have o:=gI B2.out HLB.out S6.out
       exact ⟨L6.out.dN,o.1,fun _=>rfl,nofun⟩
      ·have hbbi:decide (bz < bv) = false:=decide_eq_false (by have:=HBZ.out;have:=HBV.out;omega)
       have HBB:=hid hbb
       clear hbb
       go_wp2_with fail
       go_ret2
       rw [HOE.out,if_neg fun h=>h HK4.out,HCW.out,if_neg (fun h=>h HK6.out),if_neg HBB.out]
       have hfin:=L6.out.iE L6s.es.length
       have hS:=S6.out.trans (aS.own (Kept.setCell w6 ⟨lb,4,none⟩ (.int .i64 L6s.es.length)))
       have o:=gI B2.out HLB.out hS
       refine ⟨hfin.dN,o.1,nofun,fun L hL=>?_⟩
       obtain rfl:=Option.some.inj hL
       exact ⟨lb,_,_,_,rfl,hfin,HLB.out,o.2.1,o.2.2⟩
     ·have hkb6:((k6:Int) != 0) = true:=by simp;omega
      have HK6:=hid hk6
      clear hk6
      go_wp2_with fail
      go_ret2
      rw [HOE.out,if_neg fun h=>h HK4.out,HCW.out,if_pos HK6.out]
      have o:=gI B2.out HLB.out S6.out
      exact ⟨L6.out.dN,o.1,fun _=>rfl,nofun⟩
    ·have hlti:decide (lz < bz) = false:=decide_eq_false (by have:=HBZ.out;have:=HLZ.out;omega)
     have HC:Hid (¬ (L1.fs = [] \/ L1.last < base)):=hid (fun h=>h.elim HNE.out (fun q=>hlt (by rw [<- HLL.out];exact q)))
     have HCW:Hid (iS D4 L1 base = if base < L1.b then (D4,none,20) else (D4,some { L1 with safe:=L1.es.length },0)):=hid (by unfold iS;rw [if_neg HC.out];rfl)
     clear hlt
     have cb:=L5.out.c1
     obtain ⟨bv,hbv⟩:∃ bv:Int,(L1.b:Int) = bv:=⟨_,rfl⟩
     have HBV:=hid hbv
     rw [hbv] at cb
     clear hbv
     obtain ⟨ea,ec,rfl,_⟩:=L5.out.fU
     have c2:=L5.out.c2
     have c4:=L5.out.c4
     have f4:=L5.out.fz 4 (by decide) (by decide)
     by_cases hbb:base < L1.b
     ·have hbbi:decide (bz < bv) = true:=decide_eq_true (by have:=HBZ.out;have:=HBV.out;omega)
      have HBB:=hid hbb
      clear hbb
      go_wp2_with fail
      go_ret2
      rw [HOE.out,if_neg fun h=>h HK4.out,HCW.out,if_pos HBB.out]
      have o:=gI B2.out HLB.out S5.out
      exact ⟨L5.out.dN,o.1,fun _=>rfl,nofun⟩
     ·have hbbi:decide (bz < bv) = false:=decide_eq_false (by have:=HBZ.out;have:=HBV.out;omega)
      have HBB:=hid hbb
      clear hbb
      go_wp2_with fail
      go_ret2
      rw [HOE.out,if_neg fun h=>h HK4.out,HCW.out,if_neg HBB.out]
      have hfin:=L5.out.iE L1.es.length
      have hS:=S5.out.trans (aS.own (Kept.setCell w5 ⟨lb,4,none⟩ (.int .i64 L1.es.length)))
      have o:=gI B2.out HLB.out hS
      refine ⟨hfin.dN,o.1,nofun,fun L hL=>?_⟩
      obtain rfl:=Option.some.inj hL
      exact ⟨lb,_,_,_,rfl,hfin,HLB.out,o.2.1,o.2.2⟩
  ·have hkb4:((k4:Int) != 0) = true:=by simp;omega
   have HK4:=hid hk4
   clear hk4
   go_wp2_with fail
   go_ret2
   rw [HOE.out,if_pos HK4.out]
   have o:=gI B2.out HLB.out S4.out
   exact ⟨L4.out.dN,o.1,fun _=>rfl,nofun⟩
 ·have hkb:((k1:Int) != 0) = true:=by simp;omega
  have HK1:=hid hk1
  clear hk1
  go_wp2_with fail
  go_ret2
  rw [HOP.out,if_pos HK1.out]
  have o:=gI B2.out HLB.out S3.out
  exact ⟨L3.out.dN,o.1,fun _=>rfl,nofun⟩

def gL (w:World) (S:Nat -> Prop) (l:bE):Prop:=∀ p ∈ l,Bytes w p.2 p.1.d /\ p.1.fits /\ (p.1.d ≠ [] -> ∀ b,p.2.ownBlock = some b -> ¬ S b)
theorem gL.kept {w w':World} {S T:Nat -> Prop} {l:bE} (h:gL w S l) (hk:Kept w w' T) (hs:∀ k,T k -> S k):gL w' S l:=fun p hp =>
 let ⟨h1,h2,h3⟩:=h p hp
 ⟨h1.lS hk fun hne b hb ht=>h3 hne b hb (hs b ht),h2,h3⟩
theorem gL.loose {w:World} {S:Nat -> Prop} {l:bE} (h:gL w S l):bM w (fun _=>False) l:=fun p hp=>⟨(h p hp).1,(h p hp).2.1,fun _ _ h=>h⟩
theorem bM.toN {w:World} {S:Nat -> Prop} {l:bE} (h:bM w S l):gL w S l:=fun p hp=>⟨(h p hp).1,(h p hp).2.1,fun _=>(h p hp).2.2⟩
theorem gL.below {w w':World} {S:Nat -> Prop} {l:bE} (h:gL w S l) (hb:Below w.heap.size w w'):gL w' S l:=fun p hp=>⟨(h p hp).1.below hb,(h p hp).2⟩
theorem bM.within {w:World} {S T:Nat -> Prop} {l:bE} (h:bM w S l) (hT:∀ k,T k -> w.heap.size <= k):gL w T l:=fun p hp =>
 ⟨(h p hp).1,(h p hp).2.1,fun hne b hb ht=>by
  obtain ⟨b',h1,h2⟩:=(h p hp).1.lT hne
  rw [hb] at h1
  obtain rfl:=Option.some.inj h1
  have:=hT b ht
  omega⟩
structure qW (w:World) (S:Nat -> Prop) (mv:Value) (ml:bE):Prop where
 row:cS w 3 mv (aL ml)
 dat:gL w S ml
 apart:ml = [] \/ ∀ b,mv.ownBlock = some b -> ¬ S b
theorem qW.kept {w w':World} {S:Nat -> Prop} {mv:Value} {ml:bE} (h:qW w S mv ml) (hk:Kept w w' S):qW w' S mv ml :=
 ⟨h.row.kept hk (h.apart.imp (fun e=>by rw [e];rfl) id),h.dat.kept hk fun _ h=>h,h.apart⟩
theorem qW.loose {w:World} {S:Nat -> Prop} {mv:Value} {ml:bE} (h:qW w S mv ml):bM w (fun _=>False) ml:=h.dat.loose
theorem mN.arg {w w':World} {v:Value} {ml:bE} {S:Nat -> Prop} (h:mN w v ml) (hb:Below w.heap.size w w') (hS:∀ k,S k -> w.heap.size <= k):qW w' S v ml:=by
 refine ⟨(h.below hb).1,(h.2.within hS).below hb,?_⟩
 rcases ml with _ | ⟨x,ml⟩
 ·exact .inl rfl
 ·refine .inr fun b hbb hs=>?_
  obtain ⟨a,c,rfl,_,hc⟩:=h.1
  obtain ⟨b',o,rfl,hlt,_⟩:=hc 0 (by rw [aK];simp)
  obtain rfl:b' = b:=Option.some.inj hbb
  have:=hS _ hs
  omega

set_option maxRecDepth 20000 in
theorem aER {lb db mb tb:Nat} {ev fv mv:Value} {el ml:bE} {D:aA} {L:aM} {w:World} (h:bD w lb db mb tb ev fv el D L) (hm:qW w (jR lb db mb tb ev fv) mv ml) (hl:L.last <= H59) (hlen:(linesW (L.last + 1) (ml.map (·.1))).length <= 2097152) (hn:ml.length <= 2147483648)
  (hc:¬ (∀ e ∈ ml.map (·.1),e.ok) \/ H59 < L.last + ml.length \/ ml = []) :
  Calls Tryz.prog 57 #[.pointer (some ⟨lb,0,none⟩),mv] w (fH lb db mb tb ev fv (aR D L (ml.map (·.1))) w):=by
 have HH:=hid h
 have HM:=hid hm
 obtain ⟨ma,mc,rfl,_⟩:=hm.row.shape
 obtain ⟨la,hla⟩:∃ la,L.last = la:=⟨_,rfl⟩
 have HLA:=hid hla
 have hlf:mG L.last = H59 - la:=by unfold mG H59 at *;omega
 have HLF:=hid hlf
 obtain ⟨lz,hlz⟩:∃ lz:Int,(la:Int) = lz:=⟨_,rfl⟩
 have HLZ:=hid hlz
 have hl0:0 <= lz:=by omega
 have hl1:lz <= 576460752303423488:=by unfold H59 at hl;omega
 have HB:=hid (show (L.last:Int) < 18446744073709551616 by omega)
 obtain ⟨n,hnn⟩:∃ n,ml.length = n:=⟨_,rfl⟩
 have HN:=hid hnn
 rw [aK,hnn] at HM ⊢
 have hn':(n:Int) <= 2147483648:=by omega
 have HLN:=hid hlen
 have HC:=hid hc
 have HN2:Hid ((ml.map (·.1)).length <= 2147483648):=hid (by rw [List.length_map];exact hn)
 have HL6:Hid (L.last + 1 <= 1152921506754330625):=hid (by unfold H59 at hl;omega)
 have hnx:((L.last + 1:Nat):Int) = lz + 1:=by rw [<- hlz,<- hla];rfl
 have HNX:=hid hnx
 have ew:IntKind.u64.wrap (n:Int) = (n:Int):=by rw [wrap_u64];omega
 have es:IntKind.u64.wrap (576460752303423488 - lz) = 576460752303423488 - lz:=by rw [wrap_u64];omega
 have HNC:Hid (H59 < la + n ↔ 576460752303423488 - lz < (n:Int)):=hid (by unfold H59;omega)
 have HNL:Hid (H59 - la < n ↔ H59 < la + n):=hid (by unfold H59 at *;omega)
 clear h hm hla hlf hlz hlen hn hc hnn hnx hl
 go_enter Tryz.func57,Tryz.ntmps57
 go_wp2_with fail
 refine (jO HH.out).mono ?_
 rintro e w1 ⟨rfl,rfl⟩
 go_wp2_with fail
 refine (iI HH.out HB.out).mono ?_
 rintro e w2 ⟨rfl,hb2⟩
 rw [HLA.out,HLZ.out]
 have B2:=hid hb2
 have L2:=hid (HH.out.below hb2)
 have M2:=hid (HM.out.kept (Kept.aJ hb2 fun k h1 h2=>by omega))
 clear hb2
 go_wp2_with fail
 have WL:=aBY M2.out.row M2.out.loose rfl HLN.out HN2.out HL6.out
 rw [HNX.out] at WL
 refine WL.mono ?_
 clear WL
 rintro e w3 ⟨hb3,hyes,hno⟩
 have B3:Hid (Below w.heap.size w w3):=hid (B2.out.trans (hb3.mono B2.out.size))
 have L3:=hid (HH.out.below B3.out)
 clear hb3
 by_cases hall:∀ e ∈ ml.map (·.1),e.ok
 ·obtain ⟨bv,rfl,hown,_⟩:=hyes hall
  have HALL:=hid hall
  obtain ⟨ba,bn,bc,rfl⟩:=yX hown
  clear hyes hno hown hall
  go_wp2_with fail
  refine (iI L3.out HB.out).mono ?_
  rintro e w4 ⟨rfl,hb4⟩
  rw [HLA.out,HLZ.out]
  have B4:Hid (Below w.heap.size w w4):=hid (B3.out.trans (hb4.mono B3.out.size))
  have L4:=hid (HH.out.below B4.out)
  clear hb4
  by_cases hbig:H59 < la + n
  ·have hbd:decide (576460752303423488 - lz < (n:Int)) = true:=decide_eq_true (HNC.out.1 hbig)
   have HBG:=hid hbig
   clear hbig
   go_wp2_with fail
   go_ret
   have HR:aR D L (ml.map (·.1)) = (D,L,10):=by
    unfold aR
    rw [if_neg (fun q=>q HALL.out),if_pos (by rw [HLF.out,List.length_map,HN.out];exact HNL.out.2 HBG.out)]
   rw [HR]
   exact ⟨rfl,_,_,_,L4.out,aS.below B4.out⟩
  ·have hbd:decide (576460752303423488 - lz < (n:Int)) = false:=decide_eq_false (fun q=>hbig (HNC.out.2 q))
   have hml:ml = []:=(HC.out.resolve_left (fun q=>q HALL.out)).resolve_left (by rw [HLA.out,HN.out];exact hbig)
   have HML:=hid hml
   have HBG:=hid hbig
   have z0:((n:Int) == 0) = true:=by rw [<- HN.out,hml];rfl
   clear hbig hml
   go_wp2_with fail
   go_ret
   have HR:aR D L (ml.map (·.1)) = (D,L,0):=by
    unfold aR
    rw [if_neg (fun q=>q HALL.out),if_neg (by rw [HLF.out,List.length_map,HN.out];exact fun q=>HBG.out (HNL.out.1 q)),if_pos (by rw [HML.out];rfl)]
   rw [HR]
   exact ⟨rfl,_,_,_,L4.out,aS.below B4.out⟩
 ·obtain rfl:=hno hall
  have HALL:=hid hall
  clear hyes hno hall
  go_wp2_with fail
  go_ret
  have HR:aR D L (ml.map (·.1)) = (D,L,2):=by
   unfold aR
   rw [if_pos HALL.out]
  rw [HR]
  exact ⟨rfl,_,_,_,L3.out,aS.below B3.out⟩

theorem aAc {fs:List WF} {m:Nat} {f f':WF} {i:Nat} {x:Int} (hm:m < (fs.map dD).length) (hf:fs[m]? = some f) (hr:dD f' = (dD f).set i (.int .i64 x)):(fs.set m f').map dD = (fs.map dD).set m (((fs.map dD)[m]'hm).set i (.int .i64 x)):=by
 have h1:m < fs.length:=(List.getElem?_eq_some_iff.1 hf).1
 have h2:fs[m] = f:=(List.getElem?_eq_some_iff.1 hf).2
 rw [List.map_set,List.getElem_map,h2,hr]
theorem aIp {fs:List WF} {m:Nat} (hm:fs.length = m + 1) (f:WF):fs.set m f = fs.dropLast ++ [f]:=by
 have hne:fs ≠ []:=fun e=>by rw [e] at hm;cases hm
 conv=>lhs;rw [<- List.dropLast_concat_getLast hne]
 have hl:fs.dropLast.length = m:=by rw [List.length_dropLast,hm];rfl
 rw [List.set_append_right _ _ (by omega),hl,Nat.sub_self]
 rfl
theorem bD.xL {w:World} {lb db mb tb g k c m:Nat} {ev:Value} {el:bE} {D:aA} {L:aM} {f:WF} (h:bD w lb db mb tb ev (.slice (some ⟨g,0,none⟩) k c) el D L) (hf:L.fs.getLast? = some f) (hm:L.fs.length = m + 1) (a b:Nat) :
  bD ((w.setCell ⟨g,m * 3 + 1,none⟩ (.int .i64 a)).setCell ⟨g,m * 3 + 2,none⟩ (.int .i64 b)) lb db mb tb ev (.slice (some ⟨g,0,none⟩) k c) el D { L with fs:=L.fs.dropLast ++ [⟨f.f,a,b⟩] }:=by
 have hfm:L.fs[m]? = some f:=by rw [List.getLast?_eq_getElem?,hm] at hf;exact hf
 have h1:=h.aFn (k:=m) (i:=1) (q:=.i64) (x:=a) (by omega) (by decide) (by decide) (fs:=L.fs.set m ⟨f.f,a,f.s⟩) (aAc (by rw [List.length_map];omega) hfm rfl)
 have hfm2:(L.fs.set m ⟨f.f,a,f.s⟩)[m]? = some ⟨f.f,a,f.s⟩:=by rw [List.getElem?_set_self (by omega)]
 have h2:=h1.aFn (k:=m) (i:=2) (q:=.i64) (x:=b) (by simp only [List.length_set];omega) (by decide) (by decide) (fs:=(L.fs.set m ⟨f.f,a,f.s⟩).set m ⟨f.f,a,b⟩) (aAc (by rw [List.length_map,List.length_set];omega) hfm2 rfl)
 rw [List.set_set,aIp hm ⟨f.f,a,b⟩] at h2
 exact h2

set_option maxRecDepth 20000 in
theorem aDp {lb db mb tb:Nat} {ev fv mv:Value} {el ml:bE} {D:aA} {L:aM} {w:World} {f:WF} (h:bD w lb db mb tb ev fv el D L) (hm:qW w (jR lb db mb tb ev fv) mv ml) (hl:L.last <= H59) (hlen:(linesW (L.last + 1) (ml.map (·.1))).length <= 2097152) (hn:ml.length <= 2147483648)
  (hg:aW D) (hok:LOk L) (hfs:L.fs.length <= 1000000) (hes:L.es.length + ml.length <= 4294967296) (hf:L.fs.getLast? = some f) (hf0:f.s ≠ 0) (hf1:f.s < 1024) (hall:∀ e ∈ ml.map (·.1),e.ok) (hbig:¬ H59 < L.last + ml.length) (hml:ml ≠ []) :
  Calls Tryz.prog 57 #[.pointer (some ⟨lb,0,none⟩),mv] w (fH lb db mb tb ev fv (aR D L (ml.map (·.1))) w):=by
 have HR:Hid (aR D L (ml.map (·.1)) = aAl D L f (ml.map (·.1))):=hid (by
  unfold aR
  rw [if_neg (fun q=>q hall),if_neg (by have:mG L.last = H59 - L.last:=(by unfold mG H59 at *;omega);rw [this,List.length_map];omega),if_neg (by simpa using hml),hf]
  simp only
  rw [if_pos hf1])
 have HADD:Hid (aAl D L f (ml.map (·.1)) = if (aY D (aH f.f) (linesW (L.last + 1) (ml.map (·.1)))).2 ≠ 0 then ((aY D (aH f.f) (linesW (L.last + 1) (ml.map (·.1)))).1,L,(aY D (aH f.f) (linesW (L.last + 1) (ml.map (·.1)))).2)
 else ((aY D (aH f.f) (linesW (L.last + 1) (ml.map (·.1)))).1,⟨L.b,L.es ++ ml.map (·.1),L.fs.dropLast ++ [⟨f.f,f.m + (ml.map (·.1)).length,f.s + (linesW (L.last + 1) (ml.map (·.1))).length⟩],L.safe⟩,0)):=hid rfl
 have hfm:f ∈ L.fs:=List.mem_of_getLast? hf
 have hne:L.fs ≠ []:=List.ne_nil_of_mem hfm
 obtain ⟨m,hmm⟩:∃ m,L.fs.length = m + 1:=⟨L.fs.length - 1,by have:=List.length_pos_iff.2 hne;omega⟩
 obtain ⟨g,c,rfl,hcc,hgg⟩:=cA.some h.fr (by simpa using hne)
 rw [List.length_map] at h hm hcc ⊢
 obtain ⟨a0,c0,rfl,_⟩:=h.fU
 obtain ⟨k,hkk⟩:∃ k,L.fs.length = k:=⟨_,rfl⟩
 rw [hkk] at h hm hfs ⊢
 have hkm:k = m + 1:=by omega
 have HF:=hid hf
 have HMM:=hid hmm
 have HG:=hid hg
 have HNM:=hid (hok.nm f hfm)
 have HNS:Hid ((aH f.f).size <= maxLen):=hid (Nat.le_trans (eM f.f) (by decide))
 have hs':(k:Int) <= 4294967296:=by omega
 have hz0:((f.s:Int) == 0) = false:=beq_eq_false_iff_ne.2 (by omega)
 have hz1:decide (1024 <= (f.s:Int)) = false:=decide_eq_false (by omega)
 have hfmm:(f.m:Int) <= 2147483648:=by have:=hok.m hfm;have:=hok.few;omega
 have hfss:(f.s:Int) <= 1024:=by omega
 have HES:=hid hes
 have HMLN:Hid (ml.length <= 2147483648):=hid hn
 have HALL:=hid hall
 have hc:True:=trivial
 have hbig':¬ H59 < L.last + ml.length:=hbig
 have hmlen:0 < ml.length:=List.length_pos_iff.2 hml
 clear hf hmm hg hok hfm hne hkk hfs hf0 hf1 hcc hgg hes hall
 have HH:=hid h
 have HM:=hid hm
 obtain ⟨ma,mc,rfl,_⟩:=hm.row.shape
 obtain ⟨la,hla⟩:∃ la,L.last = la:=⟨_,rfl⟩
 have HLA:=hid hla
 have hlf:mG L.last = H59 - la:=by unfold mG H59 at *;omega
 have HLF:=hid hlf
 obtain ⟨lz,hlz⟩:∃ lz:Int,(la:Int) = lz:=⟨_,rfl⟩
 have HLZ:=hid hlz
 have hl0:0 <= lz:=by omega
 have hl1:lz <= 576460752303423488:=by unfold H59 at hl;omega
 have HB:=hid (show (L.last:Int) < 18446744073709551616 by omega)
 obtain ⟨n,hnn⟩:∃ n,ml.length = n:=⟨_,rfl⟩
 have HN:=hid hnn
 rw [aK,hnn] at HM ⊢
 have hn':(n:Int) <= 2147483648:=by omega
 have HLN:=hid hlen
 have HBIG:Hid (¬ H59 < la + n):=hid (by rw [<- hla,<- hnn];exact hbig')
 have hn0:((n:Int) == 0) = false:=beq_eq_false_iff_ne.2 (by omega)
 have HN2:Hid ((ml.map (·.1)).length <= 2147483648):=hid (by rw [List.length_map];exact hn)
 have HL6:Hid (L.last + 1 <= 1152921506754330625):=hid (by unfold H59 at hl;omega)
 have hnx:((L.last + 1:Nat):Int) = lz + 1:=by rw [<- hlz,<- hla];rfl
 have HNX:=hid hnx
 have ew:IntKind.u64.wrap (n:Int) = (n:Int):=by rw [wrap_u64];omega
 have es:IntKind.u64.wrap (576460752303423488 - lz) = 576460752303423488 - lz:=by rw [wrap_u64];omega
 have HNC:Hid (H59 < la + n ↔ 576460752303423488 - lz < (n:Int)):=hid (by unfold H59;omega)
 have HNL:Hid (H59 - la < n ↔ H59 < la + n):=hid (by unfold H59 at *;omega)
 have hbd:decide (576460752303423488 - lz < (n:Int)) = false:=decide_eq_false (fun q=>HBIG.out (HNC.out.2 q))
 clear h hm hla hlf hlz hlen hn hc hnn hnx hl hbig' hbig hml hmlen
 go_enter Tryz.func57,Tryz.ntmps57
 go_wp2_with fail
 refine (jO HH.out).mono ?_
 rintro e w1 ⟨rfl,rfl⟩
 go_wp2_with fail
 refine (iI HH.out HB.out).mono ?_
 rintro e w2 ⟨rfl,hb2⟩
 rw [HLA.out,HLZ.out]
 have B2:=hid hb2
 have L2:=hid (HH.out.below hb2)
 have M2:=hid (HM.out.kept (Kept.aJ hb2 fun k h1 h2=>by omega))
 clear hb2
 go_wp2_with fail
 have WL:=aBY M2.out.row M2.out.loose rfl HLN.out HN2.out HL6.out
 rw [HNX.out] at WL
 refine WL.mono ?_
 clear WL
 rintro e w3 ⟨hb3,hyes,hno⟩
 have B3:Hid (Below w.heap.size w w3):=hid (B2.out.trans (hb3.mono B2.out.size))
 have L3:=hid (HH.out.below B3.out)
 clear hb3
 obtain ⟨bv,rfl,hown,hblt⟩:=hyes HALL.out
 have BV3:Hid (Bytes w3 bv (linesW (L.last + 1) (ml.map (·.1)))):=hid (Bytes.eE hown hblt HLN.out)
 obtain ⟨ba,bc,rfl⟩:=hown.shape
 obtain ⟨bn,hbn⟩:∃ bn,(ints (linesW (L.last + 1) (ml.map (·.1)))).length = bn:=⟨_,rfl⟩
 have HBN:Hid ((linesW (L.last + 1) (ml.map (·.1))).length = bn):=hid (by rw [<- hbn,aX])
 have hbn2:(bn:Int) <= 2097152:=by have:=HLN.out;have:=HBN.out;omega
 rw [hbn] at BV3 ⊢
 clear hyes hno hown hblt hbn
 go_wp2_with fail
 refine (iI L3.out HB.out).mono ?_
 rintro e w4 ⟨rfl,hb4⟩
 rw [HLA.out,HLZ.out]
 have B4:Hid (Below w.heap.size w w4):=hid (B3.out.trans (hb4.mono B3.out.size))
 have L4:=hid (HH.out.below B4.out)
 have BV4:=hid (BV3.out.below hb4)
 clear hb4
 go_wp2_with fail
 refine (fN L4.out hkm hs').mono ?_
 rintro e w5 ⟨rfl,hb5⟩
 have B5:Hid (Below w.heap.size w w5):=hid (B4.out.trans (hb5.mono B4.out.size))
 have L5:=hid (HH.out.below B5.out)
 have BV5:=hid (BV4.out.below hb5)
 have q2:=(L5.out.fS HF.out HMM.out).2.2
 have ST:=aP.from w5
 clear hb5
 go_wp2_with fail
 refine aN [0,1,3,7,0,16,48,112,0,511,1023] 128 (fun w'=>Below w5.heap.size w5 w') (by kernel_rfl) ?_
 refine aB [0,1,2,3,4,5,6,8] (by kernel_rfl) (L:=bm 11 383) (by kernel_rfl) (f':=3) rfl (fun _ _ _ _ h=>h) (fun w o h=>ST.alloc h o) (.inr (by first | exact Below.refl _ _ | exact (Below.refl _ _).drew)) ?_
 simp only [sF,sL]
 iterate 8 (first | (refine aQ _ (by rfl) (fun w' hs=>by have Y:=L5.out.below hs;have b0:=Y.c0;obtain ⟨q0,q1,q2⟩:=Y.fS HF.out HMM.out;go_simp;try with_reducible rfl) rfl ?_;simp only [Act.put,sA]) | (refine aD _ (by rfl) (fun w'=>by go_simp;try with_reducible rfl) ?_;simp only [Act.put,sA]))
 refine aE ?_
 refine aI 7 (by kernel_rfl) (L:=bm 11 511) (by kernel_rfl) ?_
 simp only [sL]
 go_wp2_with fail;refine (oY f.f f.m f.s _ HNM.out.1 HNM.out.2).mono ?_;rintro e u7 ⟨rfl,hb7⟩;have I7:Hid (Below w5.heap.size w5 u7):=hid (by first | exact hb7 | exact ((Below.refl _ _).drew).trans hb7);clear hb7;go_wp2_with fail
 refine aF (fun _=>I7.out) ?_
 refine aI 9 (by kernel_rfl) (L:=bm 11 1023) (by kernel_rfl) ?_
 simp only [sL]
 go_wp2_with fail;have L7:=hid (L5.out.below I7.out);refine (mX db mb tb D (aH f.f) _ (linesW (L.last + 1) (ml.map (·.1))) u7 L7.out.dN HG.out (BV5.out.below I7.out) HNS.out).mono ?_;rintro e w6 ⟨rfl,hd6,hk6⟩;have L6:Hid (bD w6 lb db mb tb (.slice a0 L.es.length c0) (.slice (some ⟨g,0,none⟩) k c) el (aY D (aH f.f) (linesW (L.last + 1) (ml.map (·.1)))).1 L):=hid (L7.out.jT hd6 hk6);have S6:Hid (aS lb db mb tb w (.slice a0 L.es.length c0) (.slice (some ⟨g,0,none⟩) k c) w6 (.slice a0 L.es.length c0) (.slice (some ⟨g,0,none⟩) k c)):=hid ((aS.below B5.out).trans ((aS.below I7.out).trans (aS.dN hk6)));clear hd6 hk6;generalize (aY D (aH f.f) (linesW (L.last + 1) (ml.map (·.1)))).1 = D6 at *;generalize (aY D (aH f.f) (linesW (L.last + 1) (ml.map (·.1)))).2 = k6 at *;go_wp2_with fail
 refine aF nofun ?_
 refine aB [10] (by kernel_rfl) (L:=bm 11 2047) (by kernel_rfl) (f':=0) rfl (fun _ _ _ _ h=>h) (fun w o h=>ST.alloc h o) (.inl (by kernel_rfl)) ?_
 simp only [sF,sL]
 iterate 1 (refine aD _ (by rfl) (fun w'=>by go_simp;try with_reducible rfl) ?_;simp only [Act.put,sA])
 refine aE ?_
 refine aT (by kernel_rfl) ?_
 by_cases hk0:k6 = 0
 ·have hkb:((k6:Int) != 0) = false:=by rw [hk0];rfl
  have HK0:=hid hk0
  have y6:=(L6.out.fS HF.out HMM.out).2.2
  obtain ⟨mA,hmA⟩:∃ mA:Nat,f.m + n = mA:=⟨_,rfl⟩
  obtain ⟨sB,hsB⟩:∃ sB:Nat,f.s + bn = sB:=⟨_,rfl⟩
  have HMA:=hid hmA
  have HSB:=hid hsB
  have am:(f.m:Int) + (n:Int) = (mA:Int):=by omega
  have asb:(f.s:Int) + (bn:Int) = (sB:Int):=by omega
  have wm:IntKind.i64.wrap (mA:Int) = (mA:Int):=by simp only [IntKind.wrap_i64];omega
  have ws:IntKind.i64.wrap (sB:Int) = (sB:Int):=by simp only [IntKind.wrap_i64];omega
  have ST6:=aP.from w6
  clear hk0 q2 hmA hsB
  go_wp2_with fail
  refine aN [0,0,0,4,12,28,0,64,252,0,512,1536,3584,0,8192,32256,8189,73725,204797,524287,1048575,2097151] 0 (fun w'=>Below w6.heap.size w6 w') (by kernel_rfl) ?_
  refine aB [0,1,2,3,4,5,6,7,8,9,10,11,12,13,14,15,16,17] (by kernel_rfl) (L:=bm 22 262143) (by kernel_rfl) (f':=4) rfl (fun _ _ _ _ h=>h) (fun w o h=>ST6.alloc h o) (.inr (by first | exact Below.refl _ _ | exact (Below.refl _ _).drew)) ?_
  simp only [sF,sL]
  iterate 18 (first | (refine aQ _ (by rfl) (fun w' hs=>by have Y:=L6.out.below hs;obtain ⟨q0,q1,q2⟩:=Y.fS HF.out HMM.out;go_simp;try with_reducible rfl) rfl ?_;simp only [Act.put,sA]) | (refine aD _ (by rfl) (fun w'=>by go_simp;try with_reducible rfl) ?_;simp only [Act.put,sA]))
  refine aE ?_
  refine aI 18 (by kernel_rfl) (L:=bm 22 524287) (by kernel_rfl) ?_
  simp only [sL]
  obtain ⟨y0,y1,y2⟩:=L6.out.fS HF.out HMM.out;have z1:=cA.lW L6.out.fr (m * 3 + 1);have z2:=cA.lW L6.out.fr (m * 3 + 2);go_wp2_with fail
  refine aF nofun ?_
  refine aB [19,20] (by kernel_rfl) (L:=bm 22 2097151) (by kernel_rfl) (f':=1) rfl (fun _ _ _ _ h=>h) (fun w o h=>ST6.alloc h o) (.inl (by kernel_rfl)) ?_
  simp only [sF,sL]
  iterate 2 (refine aD _ (by rfl) (fun w'=>by go_simp;try with_reducible rfl) ?_;simp only [Act.put,sA])
  refine aE ?_
  refine aI 21 (by kernel_rfl) (L:=bm 22 4194303) (by kernel_rfl) ?_
  simp only [sL]
  go_wp2_with fail
  refine aF nofun ?_
  refine aT (by kernel_rfl) ?_
  clear y0 y1 y2 z1 z2 y6
  have L7x:=hid (L6.out.xL HF.out HMM.out mA sB)
  have K7x:Hid (Kept w6 ((w6.setCell ⟨g,m * 3 + 1,none⟩ (.int .i64 (mA:Nat))).setCell ⟨g,m * 3 + 2,none⟩ (.int .i64 (sB:Nat))) (fun b=>b = g)):=hid ((Kept.setCell w6 ⟨g,m * 3 + 1,none⟩ _).trans (Kept.setCell _ ⟨g,m * 3 + 2,none⟩ _))
  have L8':=hid (L7x.out.below ((Below.refl _ _).drew))
  have S8':Hid (aS lb db mb tb w6 (.slice a0 L.es.length c0) (.slice (some ⟨g,0,none⟩) k c) ((w6.setCell ⟨g,m * 3 + 1,none⟩ (.int .i64 (mA:Nat))).setCell ⟨g,m * 3 + 2,none⟩ (.int .i64 (sB:Nat))).drew (.slice a0 L.es.length c0) (.slice (some ⟨g,0,none⟩) k c)):=hid ⟨((K7x.out.trans (Kept.drew _ _))).mono fun b _ e=>.inr (.inr (.inr (by rw [e];rfl))),fun b hb=>.inl hb,fun b hb=>.inl hb⟩
  generalize hw8:((w6.setCell ⟨g,m * 3 + 1,none⟩ (.int .i64 (mA:Nat))).setCell ⟨g,m * 3 + 2,none⟩ (.int .i64 (sB:Nat))).drew = w8 at *
  have L8:=L8'
  have S8:=hid (S6.out.trans S8'.out)
  have M8:=hid (HM.out.kept S8.out.1)
  have ST8:=aP.from w8
  clear hw8 L7x K7x L8' S8'
  go_wp2_with fail
  refine aN [0,0,2,6,14,0,32,126,255,511,1023] 64 (fun w'=>Below w8.heap.size w8 w') (by kernel_rfl) ?_
  refine aB [0,1,2,3,4,5] (by kernel_rfl) (L:=bm 11 63) (by kernel_rfl) (f':=5) rfl (fun _ _ _ _ h=>h) (fun w o h=>ST8.alloc h o) (.inr (by first | exact Below.refl _ _ | exact (Below.refl _ _).drew)) ?_
  simp only [sF,sL]
  iterate 6 (first | (refine aQ _ (by rfl) (fun w' hs=>by have Y:=L8.out.below hs;have b2:=Y.c2;go_simp;try with_reducible rfl) rfl ?_;simp only [Act.put,sA]) | (refine aD _ (by rfl) (fun w'=>by go_simp;try with_reducible rfl) ?_;simp only [Act.put,sA]))
  refine aE ?_
  refine aI 6 (by kernel_rfl) (L:=bm 11 127) (by kernel_rfl) ?_
  simp only [sL]
  go_wp2_with fail;refine (qM _ ml _ (M8.out.row.below ((Below.refl w8.heap.size w8).drew)) ((qW.kept M8.out (Kept.drew w8 _)).loose) HMLN.out).mono ?_;rintro e w9 ⟨cv,rfl,cl,hoc,hcm,hcd,hcb,hbc⟩;have B9:Hid (Below w8.heap.size w8 w9):=hid (((Below.refl w8.heap.size w8).drew).trans hbc);have OC:=hid hoc;have CM:=hid hcm;have L9:=hid (L8.out.below B9.out);have DC:Hid (bM w9 (bB db mb tb) cl):=hid (hcd.mono fun p _ b _ hb=>L8.out.dN.lt3 b hb);have H32:Hid ((aL el).length + (aL cl).length <= 4294967296):=hid (by rw [aK,aK,L8.out.xC,show cl.length = ml.length by rw [<- List.length_map (f:=fun x:bR × Value=>x.1),hcm,List.length_map]];exact HES.out);obtain ⟨ca,cn,cc,rfl⟩:=eH hoc;clear hoc hcm hcd hcb hbc;go_wp2_with fail
  refine aF (fun _=>B9.out) ?_
  refine aI 7 (by kernel_rfl) (L:=bm 11 255) (by kernel_rfl) ?_
  simp only [sL]
  go_wp2_with (at_builtin;refine cJ rT _ _ rfl (.slice a0 L.es.length c0) (.slice ca cn cc) (aL el) (aL cl) rfl rfl L9.out.er OC.out.qA (iB cl) DC.out.mJ (jA DC.out) rU H32.out rfl ?_;intro v10 w10 ho10 hg10 ha10;obtain ⟨a10,n10,c10,rfl⟩:=eH ho10;have G10:=hid (L9.out.aBn (el':=el ++ cl) hg10 (by rw [gP];exact ho10) ha10 ((L9.out.dat.dT (Kept.cK hg10) (fL L9.out.er)).app (DC.out.dT (Kept.cK hg10) (fL L9.out.er))));have A10:=hid ha10;have e2:=(L9.out.pO hg10).1;have e3:=(L9.out.pO hg10).2;clear ho10 hg10 ha10)
  refine aF nofun ?_
  refine aB [8,9] (by kernel_rfl) (L:=bm 11 1023) (by kernel_rfl) (f':=1) rfl (fun _ _ _ _ h=>h) (fun w o h=>ST8.alloc h o) (.inl (by kernel_rfl)) ?_
  simp only [sF,sL]
  iterate 2 (refine aD _ (by rfl) (fun w'=>by go_simp;try with_reducible rfl) ?_;simp only [Act.put,sA])
  refine aE ?_
  refine aI 10 (by kernel_rfl) (L:=bm 11 2047) (by kernel_rfl) ?_
  simp only [sL]
  go_wp2_with fail
  refine aF nofun ?_
  refine aT (by kernel_rfl) ?_
  go_wp2_with fail
  go_ret
  rw [HR.out,HADD.out,if_neg fun q=>q HK0.out]
  have hfin:=G10.out.1
  have eL:(⟨L.b,(el ++ cl).map (·.1),L.fs.dropLast ++ [⟨f.f,mA,sB⟩],L.safe⟩:aM) = ⟨L.b,L.es ++ ml.map (·.1),L.fs.dropLast ++ [⟨f.f,f.m + (ml.map (·.1)).length,f.s + (linesW (L.last + 1) (ml.map (·.1))).length⟩],L.safe⟩:=by
   have h1:el.map (·.1) = L.es:=L8.out.es
   rw [List.map_append,h1,CM.out,List.length_map,HN.out,HMA.out,HBN.out,HSB.out]
  have hL:bD (w10.setCell ⟨lb,2,none⟩ (.slice a10 n10 c10)) lb db mb tb (.slice a10 n10 c10) (.slice (some ⟨g,0,none⟩) k c) (el ++ cl) D6 ⟨L.b,L.es ++ ml.map (·.1),L.fs.dropLast ++ [⟨f.f,f.m + (ml.map (·.1)).length,f.s + (linesW (L.last + 1) (ml.map (·.1))).length⟩],L.safe⟩:=by
   rw [<- eL]
   exact hfin
  have sE:aS lb db mb tb w9 (.slice a0 L.es.length c0) (.slice (some ⟨g,0,none⟩) k c) (w10.setCell ⟨lb,2,none⟩ (.slice a10 n10 c10)) (.slice a10 n10 c10) (.slice (some ⟨g,0,none⟩) k c):=⟨G10.out.2,oF A10.out,fun b hb=>.inl hb⟩
  have sF:=S8.out.trans ((aS.below B9.out).trans sE)
  first
   | exact ⟨rfl,_,_,_,hL,sF.1,sF.2.1,sF.2.2⟩
   | (have sG:=sF.trans (aS.below ((Below.refl (w10.setCell ⟨lb,2,none⟩ (.slice a10 n10 c10)).heap.size (w10.setCell ⟨lb,2,none⟩ (.slice a10 n10 c10))).drew));exact ⟨rfl,_,_,_,hL.below ((Below.refl _ _).drew),sG.1,sG.2.1,sG.2.2⟩)
 ·have hkb:((k6:Int) != 0) = true:=by simp;omega
  have HK0:=hid hk0
  clear hk0
  go_wp2_with fail
  go_ret
  rw [HR.out,HADD.out,if_pos HK0.out]
  exact ⟨rfl,_,_,_,L6.out,S6.out.1,S6.out.2.1,S6.out.2.2⟩

theorem aJO {lb db mb tb:Nat} {ev fv:Value} {el:bE} {D:aA} {L:aM} {w:World} (h:bD w lb db mb tb ev fv el D L) (hw:DWf D) (hok:LOk L) (hs:L.fs.length <= 1000000) (hne:L.safe ≠ L.es.length -> L.fs ≠ []) :
  Calls Tryz.prog 58 #[.pointer (some ⟨lb,0,none⟩)] w (fH lb db mb tb ev fv (bJ D L) w):=by
 by_cases hq:L.safe = L.es.length
 ·exact aEX h hq
 ·cases e:L.fs.getLast? with
  | none=>exact absurd (List.getLast?_eq_none_iff.1 e) (hne hq)
  | some f=>exact aIN h hw hok.nm e hq hs
theorem aGP (D:aA) (L:aM):(bJ D L).2.1.b = L.b /\ (bJ D L).2.1.es = L.es /\ (bJ D L).2.1.fs = L.fs:=by
 unfold bJ
 split
 ·exact ⟨rfl,rfl,rfl⟩
 ·split
  ·exact ⟨rfl,rfl,rfl⟩
  ·split <;> exact ⟨rfl,rfl,rfl⟩
theorem aEr {D:aA} (L:aM) (h:aW D) (hs:D.steps + 1 <= 1000000000):aW (bJ D L).1:=by
 have:=(jX D L).fB h (by simpa using hs)
 exact this.1
structure FC (W:World) (b:Nat) (x:Int):Prop where
 c0:W.cell? ⟨b,0,none⟩ = some (.int .u64 x)
 c1:W.cell? ⟨b,1,none⟩ = some (.int .i64 0)
 c2:W.cell? ⟨b,2,none⟩ = some (.int .i64 0)
theorem FC.kept {W W':World} {b:Nat} {x:Int} {S:Nat -> Prop} (h:FC W b x) (hk:Kept W W' S) (hs:¬ S b):FC W' b x:=⟨hk.cell h.c0 hs,hk.cell h.c1 hs,hk.cell h.c2 hs⟩
theorem FC.below {W W':World} {b:Nat} {x:Int} (h:FC W b x) (hb:Below W.heap.size W W'):FC W' b x:=h.kept (Kept.aJ hb (S:=fun _=>False) fun k h1 h2=>by omega) id
theorem bD.jV {w:World} {lb db mb tb:Nat} {ev fv:Value} {el:bE} {D:aA} {L:aM} (h:bD w lb db mb tb ev fv el D L) {b:Nat} (hb:jR lb db mb tb ev fv b):b < w.heap.size:=by
 rcases hb with rfl | hb | hb | hb
 ·exact h.lt
 ·exact h.dN.lt3 b hb
 ·exact h.er.lt b hb
 ·exact h.fr.lt b hb
theorem wK {n:Nat} (hn:(n:Int) < 18446744073709551616):(dH n).length <= 100 /\ ∀ c ∈ dH n,c < 256:=by
 have h1:=gU hn
 unfold dH
 exact ⟨by rw [dE];omega,aJ4 (by decide) (by omega) (tM hn)⟩
theorem aET {lb db mb tb:Nat} {ev fv:Value} {el:bE} {D:aA} {L:aM} {w:World} (h:bD w lb db mb tb ev fv el D L) (hnf:∀ f,L.fs.getLast? = some f -> 1024 <= f.s) (hs:L.fs.length <= 1000000) :
  Calls Tryz.prog 113 #[.pointer (some ⟨lb,0,none⟩)] w fun e w'=>∃ p,e = .returned (.pointer p) /\ Below w.heap.size w w' /\ (p = none \/ ∃ g m s:Nat,p = some ⟨g,m * 3,none⟩ /\ w'.cell? ⟨g,m * 3 + 2,none⟩ = some (.int .i64 s) /\ 1024 <= s):=by
 by_cases hn:L.fs = []
 ·refine (vP h hn).mono ?_
  rintro e w' ⟨rfl,rfl⟩
  exact ⟨_,rfl,Below.refl _ _,.inl rfl⟩
 ·obtain ⟨m,hmm⟩:∃ m,L.fs.length = m + 1:=⟨L.fs.length - 1,by have:=List.length_pos_iff.2 hn;omega⟩
  obtain ⟨f,hf⟩:∃ f,L.fs.getLast? = some f:=⟨_,List.getLast?_eq_some_getLast hn⟩
  obtain ⟨g,c,rfl,hcc,hgg⟩:=cA.some h.fr (by simpa using hn)
  refine (fN h (m:=m) (by rw [List.length_map];exact hmm) (by rw [List.length_map];omega)).mono ?_
  rintro e w' ⟨rfl,hb⟩
  exact ⟨_,rfl,hb,.inr ⟨g,m,f.s,rfl,((h.below hb).fS hf hmm).2.2,hnf f hf⟩⟩

set_option maxRecDepth 20000 in
theorem aDr {lb db mb tb:Nat} {ev fv mv:Value} {el ml:bE} {D:aA} {L:aM} {w:World} (h:bD w lb db mb tb ev fv el D L) (hm:qW w (jR lb db mb tb ev fv) mv ml) (hl:L.last <= H59) (hlen:(linesW (L.last + 1) (ml.map (·.1))).length <= 2000000) (hn:ml.length <= 2147483648)
  (hg:aW D) (hst:D.steps + 1 <= 1000000000) (hok:LOk L) (hfs:L.fs.length <= 1000000) (hes:L.es.length + ml.length <= 4294967296) (hsy:L.safe ≠ L.es.length -> L.fs ≠ []) (hnf:∀ f,L.fs.getLast? = some f -> 1024 <= f.s) (hall:∀ e ∈ ml.map (·.1),e.ok) (hbig:¬ H59 < L.last + ml.length) (hml:ml ≠ []) :
  Calls Tryz.prog 57 #[.pointer (some ⟨lb,0,none⟩),mv] w (fH lb db mb tb ev fv (aR D L (ml.map (·.1))) w):=by
 have HR:Hid (aR D L (ml.map (·.1)) = nH D L (ml.map (·.1))):=hid (by
  unfold aR
  rw [if_neg (fun q=>q hall),if_neg (by have:mG L.last = H59 - L.last:=(by unfold mG H59 at *;omega);rw [this,List.length_map];omega),if_neg (by simpa using hml)]
  cases e:L.fs.getLast? with
  | none=>rfl
  | some f =>
   simp only
   rw [if_neg (by have:=hnf f e;omega)])
 have HNEW:Hid (nH D L (ml.map (·.1)) = if (bJ D L).2.2 ≠ 0 then ((bJ D L).1,(bJ D L).2.1,(bJ D L).2.2)
 else if (aY (bJ D L).1 (aH (L.last + 1)) (cH (L.last + 1) (ml.map (·.1)))).2 ≠ 0 then ((aY (bJ D L).1 (aH (L.last + 1)) (cH (L.last + 1) (ml.map (·.1)))).1,(bJ D L).2.1,(aY (bJ D L).1 (aH (L.last + 1)) (cH (L.last + 1) (ml.map (·.1)))).2)
 else ((aY (bJ D L).1 (aH (L.last + 1)) (cH (L.last + 1) (ml.map (·.1)))).1,⟨L.b,L.es ++ ml.map (·.1),L.fs ++ [⟨L.last + 1,(ml.map (·.1)).length,(cH (L.last + 1) (ml.map (·.1))).length⟩],(bJ D L).2.1.safe⟩,0)):=hid rfl
 have HG1:=hid (aEr L hg hst)
 have HSL:=hid (aGP D L)
 have HGW:=hid hg.wf
 have HOK:=hid hok
 have HFL:=hid hfs
 have HSY:=hid hsy
 have HNF:=hid hnf
 have HNX1:Hid (1 <= L.last + 1):=hid (by omega)
 have HNX2:Hid (L.last + 1 < 1152921504606846976):=hid (by unfold H59 at hl;omega)
 have HNS:Hid ((aH (L.last + 1)).size <= maxLen):=hid (Nat.le_trans (eM _) (by decide))
 have HES:=hid hes
 have HMLN:Hid (ml.length <= 2147483648):=hid hn
 have HALL:=hid hall
 have HL20:=hid hlen
 have hlen:(linesW (L.last + 1) (ml.map (·.1))).length <= 2097152:=by omega
 have hc:True:=trivial
 have hbig':¬ H59 < L.last + ml.length:=hbig
 have hmlen:0 < ml.length:=List.length_pos_iff.2 hml
 clear hg hst hok hfs hes hsy hnf hall
 have HH:=hid h
 have HM:=hid hm
 obtain ⟨ma,mc,rfl,_⟩:=hm.row.shape
 obtain ⟨la,hla⟩:∃ la,L.last = la:=⟨_,rfl⟩
 have HLA:=hid hla
 have hlf:mG L.last = H59 - la:=by unfold mG H59 at *;omega
 have HLF:=hid hlf
 obtain ⟨lz,hlz⟩:∃ lz:Int,(la:Int) = lz:=⟨_,rfl⟩
 have HLZ:=hid hlz
 have hl0:0 <= lz:=by omega
 have hl1:lz <= 576460752303423488:=by unfold H59 at hl;omega
 have HB:=hid (show (L.last:Int) < 18446744073709551616 by omega)
 obtain ⟨n,hnn⟩:∃ n,ml.length = n:=⟨_,rfl⟩
 have HN:=hid hnn
 rw [aK,hnn] at HM ⊢
 have hn':(n:Int) <= 2147483648:=by omega
 have HLN:=hid hlen
 have HBIG:Hid (¬ H59 < la + n):=hid (by rw [<- hla,<- hnn];exact hbig')
 have hn0:((n:Int) == 0) = false:=beq_eq_false_iff_ne.2 (by omega)
 have HN2:Hid ((ml.map (·.1)).length <= 2147483648):=hid (by rw [List.length_map];exact hn)
 have HL6:Hid (L.last + 1 <= 1152921506754330625):=hid (by unfold H59 at hl;omega)
 have hnx:((L.last + 1:Nat):Int) = lz + 1:=by rw [<- hlz,<- hla];rfl
 have HNX:=hid hnx
 have ew:IntKind.u64.wrap (n:Int) = (n:Int):=by rw [wrap_u64];omega
 have es:IntKind.u64.wrap (576460752303423488 - lz) = 576460752303423488 - lz:=by rw [wrap_u64];omega
 have HNC:Hid (H59 < la + n ↔ 576460752303423488 - lz < (n:Int)):=hid (by unfold H59;omega)
 have HNL:Hid (H59 - la < n ↔ H59 < la + n):=hid (by unfold H59 at *;omega)
 have hbd:decide (576460752303423488 - lz < (n:Int)) = false:=decide_eq_false (fun q=>HBIG.out (HNC.out.2 q))
 clear h hm hla hlf hlz hlen hn hc hnn hnx hl hbig' hbig hml hmlen
 go_enter Tryz.func57,Tryz.ntmps57
 go_wp2_with fail
 refine (jO HH.out).mono ?_
 rintro e w1 ⟨rfl,rfl⟩
 go_wp2_with fail
 refine (iI HH.out HB.out).mono ?_
 rintro e w2 ⟨rfl,hb2⟩
 rw [HLA.out,HLZ.out]
 have B2:=hid hb2
 have L2:=hid (HH.out.below hb2)
 have M2:=hid (HM.out.kept (Kept.aJ hb2 fun k h1 h2=>by omega))
 clear hb2
 go_wp2_with fail
 have WL:=aBY M2.out.row M2.out.loose rfl HLN.out HN2.out HL6.out
 rw [HNX.out] at WL
 refine WL.mono ?_
 clear WL
 rintro e w3 ⟨hb3,hyes,hno⟩
 have B3:Hid (Below w.heap.size w w3):=hid (B2.out.trans (hb3.mono B2.out.size))
 have L3:=hid (HH.out.below B3.out)
 clear hb3
 obtain ⟨bv,rfl,hown,hblt⟩:=hyes HALL.out
 have BV3:Hid (Bytes w3 bv (linesW (L.last + 1) (ml.map (·.1)))):=hid (Bytes.eE hown hblt HLN.out)
 have HNB:Hid (∀ b,bv.ownBlock = some b -> w.heap.size <= b):=hid (fun b hb=>Nat.le_trans B2.out.size (hown.lt b hb).1)
 have HBL:=hid hblt
 obtain ⟨ba,bc,rfl⟩:=hown.shape
 obtain ⟨bn,hbn⟩:∃ bn,(ints (linesW (L.last + 1) (ml.map (·.1)))).length = bn:=⟨_,rfl⟩
 have HBN:Hid ((linesW (L.last + 1) (ml.map (·.1))).length = bn):=hid (by rw [<- hbn,aX])
 rw [hbn] at BV3 HNB ⊢
 clear hyes hno hown hblt hbn
 go_wp2_with fail
 refine (iI L3.out HB.out).mono ?_
 rintro e w4 ⟨rfl,hb4⟩
 rw [HLA.out,HLZ.out]
 have B4:Hid (Below w.heap.size w w4):=hid (B3.out.trans (hb4.mono B3.out.size))
 have L4:=hid (HH.out.below B4.out)
 have BV4:=hid (BV3.out.below hb4)
 clear hb4
 go_wp2_with fail
 refine (aET L4.out HNF.out HFL.out).mono ?_
 rintro e w5 ⟨p,rfl,hb5,hp⟩
 have B5:Hid (Below w.heap.size w w5):=hid (B4.out.trans (hb5.mono B4.out.size))
 have L5:=hid (HH.out.below B5.out)
 have BV5:=hid (BV4.out.below hb5)
 clear hb5
 rcases hp with rfl | ⟨pg,pm,ps,rfl,q2,hs1⟩
 rotate_left
 have hz1:decide (1024 <= (ps:Int)) = true:=decide_eq_true (by omega)
 clear hs1
 go_wp2_with fail
 clear q2 hz1
 all_goals
  refine (aJO L5.out HGW.out HOK.out HFL.out HSY.out).mono ?_
  rintro e w6 ⟨rfl,ev1,fv1,el1,hl6,hs6⟩
  have HFSL:Hid ((bJ D L).2.1.fs.length = L.fs.length):=hid (by rw [HSL.out.2.2])
  have HESL:Hid ((bJ D L).2.1.es.length = L.es.length):=hid (by rw [HSL.out.2.1])
  have S6:Hid (aS lb db mb tb w ev fv w6 ev1 fv1):=hid ((aS.below B5.out).trans hs6)
  have HNO:Hid (∀ b,(Value.slice ba bn bc).ownBlock = some b -> ¬ jR lb db mb tb ev fv b):=hid (fun b hb hs=>by have:=HNB.out b hb;have:=HH.out.jV hs;omega)
  have BV6:Hid (Bytes w6 (.slice ba bn bc) (linesW (L.last + 1) (ml.map (·.1)))):=hid (BV5.out.kept hs6.1 HNO.out)
  have L6:=hid hl6
  clear hl6 hs6
  generalize (bJ D L).1 = D1 at *
  generalize (bJ D L).2.1 = L1 at *
  generalize (bJ D L).2.2 = k1 at *
  by_cases hk1:k1 = 0
  ·have hkb:((k1:Int) != 0) = false:=by rw [hk1];rfl
   have HK1:=hid hk1
   clear hk1
   go_wp2_with fail
   have X7:Hid (FC (w6.alloc (.cells #[.int .u64 (lz + 1),.int .i64 0,.int .i64 0] 188)) w6.heap.size (lz + 1)):=hid ⟨by go_cell,by go_cell,by go_cell⟩
   have WG:=aAE (L.last + 1) (w6.alloc (.cells #[.int .u64 (lz + 1),.int .i64 0,.int .i64 0] 188)) (by have:=HNX2.out;omega)
   rw [HNX.out] at WG
   refine WG.mono ?_
   clear WG
   rintro e w7 ⟨hv,rfl,ho7,hb7⟩
   have HG7:Hid (Below w6.heap.size w6 w7):=hid (((Below.refl w6.heap.size w6).alloc (Nat.le_refl _) _).trans (hb7.mono (by simp)))
   have HLT7:Hid (w6.heap.size < (w6.alloc (.cells #[.int .u64 (lz + 1),.int .i64 0,.int .i64 0] 188)).heap.size):=hid (by simp)
   have HSZ7:Hid ((w6.alloc (.cells #[.int .u64 (lz + 1),.int .i64 0,.int .i64 0] 188)).heap.size <= w7.heap.size):=hid hb7.size
   have X8a:=hid (X7.out.below hb7)
   have O7:=hid ho7
   have BV7:=hid (BV6.out.below HG7.out)
   have HHL:Hid ((dH (L.last + 1)).length <= 100 /\ ∀ c ∈ dH (L.last + 1),c < 256):=hid (wK (by have:=HNX2.out;omega))
   have HL2:Hid ((ints (dH (L.last + 1))).length + (ints (linesW (L.last + 1) (ml.map (·.1)))).length <= 4294967296):=hid (by rw [aX,aX];have:=HHL.out.1;have:=HLN.out;omega)
   clear ho7 hb7 X7
   go_wp2_with (at_builtin;refine cI Tryz.u8s _ _ rfl (w6.alloc (.cells #[.int .u64 (lz + 1),.int .i64 0,.int .i64 0] 188)).heap.size hv (.slice ba bn bc) (ints (dH (L.last + 1))) (ints (linesW (L.last + 1) (ml.map (·.1)))) rfl rfl O7.out BV7.out.rd (by decide) HL2.out HSZ7.out rfl ?_;intro v8 w8 hown8 hgr8 hat8 hnil8 hbel8;have HO8:=hid hown8;have B8:=hid hbel8;obtain ⟨sa,sc,rfl⟩:=hown8.shape;obtain ⟨sn,hsn⟩:∃ sn,(ints (dH (L.last + 1)) ++ ints (linesW (L.last + 1) (ml.map (·.1)))).length = sn:=⟨_,rfl⟩;have HSN0:=hid hsn;rw [hsn] at HO8 ⊢;clear hown8 hgr8 hat8 hnil8 hbel8 hsn)
   have HS8:Hid ((cH (L.last + 1) (ml.map (·.1))).length <= 2001000):=hid (by unfold cH;rw [List.length_append];have:=HHL.out.1;have:=HL20.out;omega)
   have BV8:Hid (Bytes w8 (.slice sa sn sc) (cH (L.last + 1) (ml.map (·.1)))):=hid (by
    have e:ints (dH (L.last + 1)) ++ ints (linesW (L.last + 1) (ml.map (·.1))) = ints (cH (L.last + 1) (ml.map (·.1))):=by unfold cH ints;rw [List.map_append]
    have h:=HO8.out
    rw [e] at h
    refine Bytes.eE h (fun c hc=>?_) (by have:=HS8.out;omega)
    rcases List.mem_append.1 hc with hc | hc
    ·exact HHL.out.2 c hc
    ·exact HBL.out c hc)
   have HSN:Hid ((cH (L.last + 1) (ml.map (·.1))).length = sn):=hid (by rw [<- HSN0.out];unfold cH;rw [List.length_append,List.length_append,aX,aX])
   have hsn2:(sn:Int) <= 2001000:=by have:=HSN.out;have:=HS8.out;omega
   have B68:Hid (Below w6.heap.size w6 w8):=hid (HG7.out.trans (B8.out.mono (Nat.le_of_lt HLT7.out)))
   have X8:Hid (FC w8 w6.heap.size (lz + 1)):=hid (X8a.out.kept (Kept.aJ B8.out (S:=fun b=>(w6.alloc (.cells #[.int .u64 (lz + 1),.int .i64 0,.int .i64 0] 188)).heap.size <= b) fun k h1 h2=>h2) (by have:=HLT7.out;omega))
   have HNB3:Hid (¬ bB db mb tb w6.heap.size):=hid (fun h=>by have:=L6.out.dN.lt3 _ h;omega)
   have HGL:Hid (w.heap.size <= w6.heap.size):=hid S6.out.1.size
   have L8:=hid (L6.out.below B68.out)
   have S8:Hid (aS lb db mb tb w ev fv w8 ev1 fv1):=hid (S6.out.trans (aS.below B68.out))
   have HG6:Hid (w6.heap.size < w8.heap.size):=hid (by have:=HLT7.out;have:=HSZ7.out;have:=B8.out.size;omega)
   have ST:=aP.from w8
   clear HSN0 HG7 HLT7 HSZ7 X8a O7 BV7 HHL HL2 HO8 B8 B68 BV6
   generalize w6.heap.size = g at *
   go_wp2_with fail
   refine aN [0,1,3,7,0,16,48,112,0,511,1023] 128 (fun w'=>Below w8.heap.size w8 w') (by kernel_rfl) ?_
   refine aB [0,1,2,3,4,5,6,8] (by kernel_rfl) (L:=bm 11 383) (by kernel_rfl) (f':=3) rfl (fun _ _ _ _ h=>h) (fun w o h=>ST.alloc h o) (.inr (by first | exact Below.refl _ _ | exact (Below.refl _ _).drew)) ?_
   simp only [sF,sL]
   iterate 8 (first | (refine aQ _ (by rfl) (fun w' hs=>by have Y:=L8.out.below hs;have b0:=Y.c0;obtain ⟨q0,q1,q2⟩:=X8.out.below hs;go_simp;try with_reducible rfl) rfl ?_;simp only [Act.put,sA]) | (refine aD _ (by rfl) (fun w'=>by go_simp;try with_reducible rfl) ?_;simp only [Act.put,sA]))
   refine aE ?_
   refine aI 7 (by kernel_rfl) (L:=bm 11 511) (by kernel_rfl) ?_
   simp only [sL]
   go_wp2_with fail;have WN:=oY (L.last + 1) 0 0 w8.drew HNX1.out HNX2.out;rw [HNX.out] at WN;refine WN.mono ?_;clear WN;rintro e u9 ⟨rfl,hb9⟩;have I9:Hid (Below w8.heap.size w8 u9):=hid (((Below.refl w8.heap.size w8).drew).trans hb9);clear hb9;go_wp2_with fail
   refine aF (fun _=>I9.out) ?_
   refine aI 9 (by kernel_rfl) (L:=bm 11 1023) (by kernel_rfl) ?_
   simp only [sL]
   go_wp2_with fail;have L9:=hid (L8.out.below I9.out);refine (mX db mb tb D1 (aH (L.last + 1)) _ (cH (L.last + 1) (ml.map (·.1))) u9 L9.out.dN HG1.out (BV8.out.below I9.out) HNS.out).mono ?_;rintro e w10 ⟨rfl,hd10,hk10⟩;have L10:Hid (bD w10 lb db mb tb ev1 fv1 el1 (aY D1 (aH (L.last + 1)) (cH (L.last + 1) (ml.map (·.1)))).1 L1):=hid (L9.out.jT hd10 hk10);have S10:Hid (aS lb db mb tb w ev fv w10 ev1 fv1):=hid (S8.out.trans ((aS.below I9.out).trans (aS.dN hk10)));have X10:=hid ((X8.out.below I9.out).kept hk10 HNB3.out);clear hd10 hk10;generalize (aY D1 (aH (L.last + 1)) (cH (L.last + 1) (ml.map (·.1)))).1 = D10 at *;generalize (aY D1 (aH (L.last + 1)) (cH (L.last + 1) (ml.map (·.1)))).2 = k10 at *;go_wp2_with fail
   refine aF nofun ?_
   refine aB [10] (by kernel_rfl) (L:=bm 11 2047) (by kernel_rfl) (f':=0) rfl (fun _ _ _ _ h=>h) (fun w o h=>ST.alloc h o) (.inl (by kernel_rfl)) ?_
   simp only [sF,sL]
   iterate 1 (refine aD _ (by rfl) (fun w'=>by go_simp;try with_reducible rfl) ?_;simp only [Act.put,sA])
   refine aE ?_
   refine aT (by kernel_rfl) ?_
   by_cases hk0:k10 = 0
   ·have hkb:((k10:Int) != 0) = false:=by rw [hk0];rfl
    have HK0:=hid hk0
    have y6:=X10.out.c2
    clear hk0
    go_wp2_with fail
    obtain ⟨fa,fc,rfl,_⟩:=L10.out.oL
    obtain ⟨ea,ec,rfl,_⟩:=L10.out.fU
    obtain ⟨fn,hfn⟩:∃ fn,L1.fs.length = fn:=⟨_,rfl⟩
    have HFN:=hid hfn
    obtain ⟨en,hen⟩:∃ en,L1.es.length = en:=⟨_,rfl⟩
    have HEN:=hid hen
    obtain ⟨ff,hff⟩:∃ ff:WF,ff = ⟨L.last + 1,0,0⟩:=⟨_,rfl⟩
    have HFF:=hid hff
    have hf1:(ff.f:Int) = lz + 1:=by rw [hff];exact HNX.out
    have hf2:(ff.m:Int) = 0:=by rw [hff];rfl
    have hf3:(ff.s:Int) = 0:=by rw [hff];rfl
    have SR:Hid (∀ W:World,W.heap.size = w10.heap.size -> cS (W.alloc (.cells #[.int .u64 (lz + 1),.int .i64 0,.int .i64 0] 188)) 3 (.slice (some ⟨w10.heap.size,0,none⟩) 1 1) [dD ff]):=hid (fun W hW=>by
     have h:=vK W (.int .u64 (lz + 1)) (.int .i64 0) (.int .i64 0) 188
     rw [hW] at h
     unfold dD
     rw [hf1,hf2,hf3]
     exact h)
    rw [hfn] at L10 S10
    rw [hen] at L10 S10
    have ST10:=aP.from w10
    have M10:=hid (HM.out.kept S10.out.1)
    have HF1:=hid hf1
    have HF2:=hid hf2
    have HF3:=hid hf3
    clear hff hfn hen y6 hf1 hf2 hf3
    refine aN [0,0,2,6,14,0,32,96,224,510,1023,2047,4095] 0 (fun w'=>Below w10.heap.size w10 w') (by kernel_rfl) ?_
    refine aB [0,1,2,3,4,5,6,7] (by kernel_rfl) (L:=bm 13 255) (by kernel_rfl) (f':=5) rfl (fun _ _ _ _ h=>h) (fun w o h=>ST10.alloc h o) (.inr (by first | exact Below.refl _ _ | exact (Below.refl _ _).drew)) ?_
    simp only [sF,sL]
    iterate 8 (first | (refine aQ _ (by rfl) (fun w' hs=>by have Y:=L10.out.below hs;have b3:=Y.c3;obtain ⟨q0,q1,q2⟩:=X10.out.below hs;go_simp;try with_reducible rfl) rfl ?_;simp only [Act.put,sA]) | (refine aD _ (by rfl) (fun w'=>by go_simp;try with_reducible rfl) ?_;simp only [Act.put,sA]))
    refine aE ?_
    refine aI 8 (by kernel_rfl) (L:=bm 13 511) (by kernel_rfl) ?_
    simp only [sL]
    go_wp2_with fail
    refine aF nofun ?_
    refine aI 9 (by kernel_rfl) (L:=bm 13 1023) (by kernel_rfl) ?_
    simp only [sL]
    go_wp2_with (at_builtin;refine cJ aBW _ _ rfl (.slice fa fn fc) (.slice (some ⟨w10.heap.size,0,none⟩) 1 1) (L1.fs.map dD) [dD ff] rfl rfl (L10.out.fr.below ((Below.refl _ _).drew.alloc (Nat.le_refl _) _)) (SR.out _ (by simp)) (by intro r hr;obtain rfl:=List.mem_singleton.1 hr;rfl) (by intro r hr u hu;obtain rfl:=List.mem_singleton.1 hr;simp only [dD,List.mem_cons,List.not_mem_nil,or_false] at hu;rcases hu with rfl | rfl | rfl <;> rfl) (by intro x hx;simp [dD] at hx) aBX (by rw [List.length_map];have:=HFL.out;have:=HFSL.out;simp only [List.length_cons,List.length_nil];omega) rfl ?_;intro v11 w11 ho11 hg11 ha11;obtain ⟨g11,c11,rfl,hc11,hl11⟩:=cA.some ho11 (by simp);obtain ⟨kf,hkf⟩:∃ kf,(L1.fs.map dD ++ [dD ff]).length = kf:=⟨_,rfl⟩;have HKF:=hid hkf;rw [hkf] at ho11 ha11 ⊢;have LA:=(L10.out.below ((Below.refl w10.heap.size w10).drew.alloc (Nat.le_refl _) (.cells #[.int .u64 (lz + 1),.int .i64 0,.int .i64 0] 188)));have G11:=hid (LA.aDZ (fs:=L1.fs ++ [ff]) hg11 (by rw [List.map_append];exact ho11) ha11);have A11:=hid ha11;have q2:=(LA.uL hg11).1;have q3:=(LA.uL hg11).2;clear ho11 hg11 ha11 LA hc11 hl11 hkf)
    refine aF nofun ?_
    refine aB [10,11] (by kernel_rfl) (L:=bm 13 4095) (by kernel_rfl) (f':=1) rfl (fun _ _ _ _ h=>h) (fun w o h=>ST10.alloc h o) (.inl (by kernel_rfl)) ?_
    simp only [sF,sL]
    iterate 2 (refine aD _ (by rfl) (fun w'=>by go_simp;try with_reducible rfl) ?_;simp only [Act.put,sA])
    refine aE ?_
    refine aI 12 (by kernel_rfl) (L:=bm 13 8191) (by kernel_rfl) ?_
    simp only [sL]
    go_wp2_with fail
    refine aF nofun ?_
    refine aT (by kernel_rfl) ?_
    have sA:aS lb db mb tb w10 (.slice ea en ec) (.slice fa fn fc) (w10.drew.alloc (.cells #[.int .u64 (lz + 1),.int .i64 0,.int .i64 0] 188)) (.slice ea en ec) (.slice fa fn fc):=aS.below ((Below.refl _ _).drew.alloc (Nat.le_refl _) _)
    have sF:aS lb db mb tb (w10.drew.alloc (.cells #[.int .u64 (lz + 1),.int .i64 0,.int .i64 0] 188)) (.slice ea en ec) (.slice fa fn fc) (w11.setCell ⟨lb,3,none⟩ (.slice (some ⟨g11,0,none⟩) kf c11)) (.slice ea en ec) (.slice (some ⟨g11,0,none⟩) kf c11):=⟨G11.out.2,fun b hb=>.inl hb,oF A11.out⟩
    have S12:=hid (S10.out.trans (sA.trans sF))
    obtain ⟨L2,hL2⟩:∃ L2:aM,L2 = ⟨L1.b,L1.es,L1.fs ++ [ff],L1.safe⟩:=⟨_,rfl⟩
    have HL2:Hid (L2.b = L.b /\ L2.es = L.es /\ L2.fs = L.fs ++ [ff] /\ L2.safe = L1.safe):=hid (by rw [hL2];exact ⟨HSL.out.1,HSL.out.2.1,by rw [<- HSL.out.2.2],rfl⟩)
    have L12:Hid (bD (w11.setCell ⟨lb,3,none⟩ (.slice (some ⟨g11,0,none⟩) kf c11)) lb db mb tb (.slice ea en ec) (.slice (some ⟨g11,0,none⟩) kf c11) el1 D10 L2):=hid (by rw [hL2];exact G11.out.1)
    obtain ⟨m,hmm⟩:∃ m,L2.fs.length = m + 1:=⟨L2.fs.length - 1,by rw [hL2];simp⟩
    have HMM:=hid hmm
    have HF:Hid (L2.fs.getLast? = some ff):=hid (by rw [hL2];simp)
    have hkm:kf = m + 1:=by rw [<- HKF.out,<- hmm,hL2];simp
    have HM6:Hid (m <= 1000000):=hid (by have h1:L2.fs.length = L1.fs.length + 1:=(by rw [hL2];simp);have:=HFL.out;have:=HFSL.out;omega)
    have hs':(kf:Int) <= 4294967296:=by have:=HM6.out;omega
    generalize w11.setCell ⟨lb,3,none⟩ (.slice (some ⟨g11,0,none⟩) kf c11) = w12 at *
    clear sA sF G11 A11 q2 q3 hL2 hmm SR
    go_wp2_with fail
    refine (fN L12.out hkm hs').mono ?_
    rintro e w13 ⟨rfl,hb13⟩
    have L13:=hid (L12.out.below hb13)
    have S13:=hid (S12.out.trans (aS.below hb13))
    clear hb13
    have y6:=(L13.out.fS HF.out HMM.out).2.2
    obtain ⟨mA,hmA⟩:∃ mA:Nat,ff.m + n = mA:=⟨_,rfl⟩
    obtain ⟨sB,hsB⟩:∃ sB:Nat,ff.s + sn = sB:=⟨_,rfl⟩
    have HMA:=hid hmA
    have HSB:=hid hsB
    have hf2:=HF2.out
    have hf3:=HF3.out
    have am:(ff.m:Int) + (n:Int) = (mA:Int):=by omega
    have asb:(ff.s:Int) + (sn:Int) = (sB:Int):=by omega
    have wm:IntKind.i64.wrap (mA:Int) = (mA:Int):=by simp only [IntKind.wrap_i64];omega
    have ws:IntKind.i64.wrap (sB:Int) = (sB:Int):=by simp only [IntKind.wrap_i64];omega
    have ST6:=aP.from w13
    clear hmA hsB hf2 hf3
    go_wp2_with fail
    refine aN [0,0,0,4,12,28,0,64,252,0,512,1536,3584,0,8192,32256,8189,73725,204797,524287,1048575,2097151] 0 (fun w'=>Below w13.heap.size w13 w') (by kernel_rfl) ?_
    refine aB [0,1,2,3,4,5,6,7,8,9,10,11,12,13,14,15,16,17] (by kernel_rfl) (L:=bm 22 262143) (by kernel_rfl) (f':=4) rfl (fun _ _ _ _ h=>h) (fun w o h=>ST6.alloc h o) (.inr (by first | exact Below.refl _ _ | exact (Below.refl _ _).drew)) ?_
    simp only [sF,sL]
    iterate 18 (first | (refine aQ _ (by rfl) (fun w' hs=>by have Y:=L13.out.below hs;obtain ⟨q0,q1,q2⟩:=Y.fS HF.out HMM.out;go_simp;try with_reducible rfl) rfl ?_;simp only [Act.put,sA]) | (refine aD _ (by rfl) (fun w'=>by go_simp;try with_reducible rfl) ?_;simp only [Act.put,sA]))
    refine aE ?_
    refine aI 18 (by kernel_rfl) (L:=bm 22 524287) (by kernel_rfl) ?_
    simp only [sL]
    obtain ⟨y0,y1,y2⟩:=L13.out.fS HF.out HMM.out;have z1:=cA.lW L13.out.fr (m * 3 + 1);have z2:=cA.lW L13.out.fr (m * 3 + 2);go_wp2_with fail
    refine aF nofun ?_
    refine aB [19,20] (by kernel_rfl) (L:=bm 22 2097151) (by kernel_rfl) (f':=1) rfl (fun _ _ _ _ h=>h) (fun w o h=>ST6.alloc h o) (.inl (by kernel_rfl)) ?_
    simp only [sF,sL]
    iterate 2 (refine aD _ (by rfl) (fun w'=>by go_simp;try with_reducible rfl) ?_;simp only [Act.put,sA])
    refine aE ?_
    refine aI 21 (by kernel_rfl) (L:=bm 22 4194303) (by kernel_rfl) ?_
    simp only [sL]
    go_wp2_with fail
    refine aF nofun ?_
    refine aT (by kernel_rfl) ?_
    clear y0 y1 y2 z1 z2 y6
    have L7x:=hid (L13.out.xL HF.out HMM.out mA sB)
    have K7x:Hid (Kept w13 ((w13.setCell ⟨g11,m * 3 + 1,none⟩ (.int .i64 (mA:Nat))).setCell ⟨g11,m * 3 + 2,none⟩ (.int .i64 (sB:Nat))) (fun b=>b = g11)):=hid ((Kept.setCell w13 ⟨g11,m * 3 + 1,none⟩ _).trans (Kept.setCell _ ⟨g11,m * 3 + 2,none⟩ _))
    have L8':=hid (L7x.out.below ((Below.refl _ _).drew))
    have S8':Hid (aS lb db mb tb w13 (.slice ea en ec) (.slice (some ⟨g11,0,none⟩) kf c11) ((w13.setCell ⟨g11,m * 3 + 1,none⟩ (.int .i64 (mA:Nat))).setCell ⟨g11,m * 3 + 2,none⟩ (.int .i64 (sB:Nat))).drew (.slice ea en ec) (.slice (some ⟨g11,0,none⟩) kf c11)):=hid ⟨((K7x.out.trans (Kept.drew _ _))).mono fun b _ e=>.inr (.inr (.inr (by rw [e];rfl))),fun b hb=>.inl hb,fun b hb=>.inl hb⟩
    generalize hw14:((w13.setCell ⟨g11,m * 3 + 1,none⟩ (.int .i64 (mA:Nat))).setCell ⟨g11,m * 3 + 2,none⟩ (.int .i64 (sB:Nat))).drew = w14 at *
    have L14:=L8'
    have S14:=hid (S13.out.trans S8'.out)
    have M14:=hid (HM.out.kept S14.out.1)
    have ST8:=aP.from w14
    clear hw14 L7x K7x L8' S8'
    go_wp2_with fail
    refine aN [0,0,2,6,14,0,32,126,255,511,1023] 64 (fun w'=>Below w14.heap.size w14 w') (by kernel_rfl) ?_
    refine aB [0,1,2,3,4,5] (by kernel_rfl) (L:=bm 11 63) (by kernel_rfl) (f':=5) rfl (fun _ _ _ _ h=>h) (fun w o h=>ST8.alloc h o) (.inr (by first | exact Below.refl _ _ | exact (Below.refl _ _).drew)) ?_
    simp only [sF,sL]
    iterate 6 (first | (refine aQ _ (by rfl) (fun w' hs=>by have Y:=L14.out.below hs;have b2:=Y.c2;go_simp;try with_reducible rfl) rfl ?_;simp only [Act.put,sA]) | (refine aD _ (by rfl) (fun w'=>by go_simp;try with_reducible rfl) ?_;simp only [Act.put,sA]))
    refine aE ?_
    refine aI 6 (by kernel_rfl) (L:=bm 11 127) (by kernel_rfl) ?_
    simp only [sL]
    go_wp2_with fail;refine (qM _ ml _ (M14.out.row.below ((Below.refl w14.heap.size w14).drew)) ((qW.kept M14.out (Kept.drew w14 _)).loose) HMLN.out).mono ?_;rintro e w15 ⟨cv,rfl,cl,hoc,hcm,hcd,hcb,hbc⟩;have B9:Hid (Below w14.heap.size w14 w15):=hid (((Below.refl w14.heap.size w14).drew).trans hbc);have OC:=hid hoc;have CM:=hid hcm;have L15:=hid (L14.out.below B9.out);have DC:Hid (bM w15 (bB db mb tb) cl):=hid (hcd.mono fun p _ b _ hb=>L14.out.dN.lt3 b hb);have H32:Hid ((aL el1).length + (aL cl).length <= 4294967296):=hid (by rw [aK,aK,L14.out.xC,show cl.length = ml.length by rw [<- List.length_map (f:=fun x:bR × Value=>x.1),hcm,List.length_map]];have h1:L2.es.length = L.es.length:=(by rw [HL2.out.2.1]);have:=HES.out;simp only;omega);obtain ⟨ca,cn,cc,rfl⟩:=eH hoc;clear hoc hcm hcd hcb hbc;go_wp2_with fail
    refine aF (fun _=>B9.out) ?_
    refine aI 7 (by kernel_rfl) (L:=bm 11 255) (by kernel_rfl) ?_
    simp only [sL]
    go_wp2_with (at_builtin;refine cJ rT _ _ rfl (.slice ea en ec) (.slice ca cn cc) (aL el1) (aL cl) rfl rfl L15.out.er OC.out.qA (iB cl) DC.out.mJ (jA DC.out) rU H32.out rfl ?_;intro v10 w16 ho10 hg10 ha10;obtain ⟨a10,n10,c10,rfl⟩:=eH ho10;have G10:=hid (L15.out.aBn (el':=el1 ++ cl) hg10 (by rw [gP];exact ho10) ha10 ((L15.out.dat.dT (Kept.cK hg10) (fL L15.out.er)).app (DC.out.dT (Kept.cK hg10) (fL L15.out.er))));have A10:=hid ha10;have e2:=(L15.out.pO hg10).1;have e3:=(L15.out.pO hg10).2;clear ho10 hg10 ha10)
    refine aF nofun ?_
    refine aB [8,9] (by kernel_rfl) (L:=bm 11 1023) (by kernel_rfl) (f':=1) rfl (fun _ _ _ _ h=>h) (fun w o h=>ST8.alloc h o) (.inl (by kernel_rfl)) ?_
    simp only [sF,sL]
    iterate 2 (refine aD _ (by rfl) (fun w'=>by go_simp;try with_reducible rfl) ?_;simp only [Act.put,sA])
    refine aE ?_
    refine aI 10 (by kernel_rfl) (L:=bm 11 2047) (by kernel_rfl) ?_
    simp only [sL]
    go_wp2_with fail
    refine aF nofun ?_
    refine aT (by kernel_rfl) ?_
    go_wp2_with fail
    go_ret
    rw [HR.out,HNEW.out,if_neg fun q=>q HK1.out,if_neg fun q=>q HK0.out]
    have hfin:=G10.out.1
    have eL:(⟨L2.b,(el1 ++ cl).map (·.1),L2.fs.dropLast ++ [⟨ff.f,mA,sB⟩],L2.safe⟩:aM) = ⟨L.b,L.es ++ ml.map (·.1),L.fs ++ [⟨L.last + 1,(ml.map (·.1)).length,(cH (L.last + 1) (ml.map (·.1))).length⟩],L1.safe⟩:=by
     have h1:el1.map (·.1) = L2.es:=L14.out.es
     have h2:(ml.map (·.1)).length = mA:=by rw [List.length_map,HN.out,<- HMA.out,HFF.out];simp
     have h3:(cH (L.last + 1) (ml.map (·.1))).length = sB:=by rw [HSN.out,<- HSB.out,HFF.out];simp
     have h4:ff.f = L.last + 1:=by rw [HFF.out]
     rw [List.map_append,h1,CM.out,HL2.out.1,HL2.out.2.1,HL2.out.2.2.1,HL2.out.2.2.2,List.dropLast_concat,h2,h3,h4]
    have hL:bD (w16.setCell ⟨lb,2,none⟩ (.slice a10 n10 c10)) lb db mb tb (.slice a10 n10 c10) (.slice (some ⟨g11,0,none⟩) kf c11) (el1 ++ cl) D10 ⟨L.b,L.es ++ ml.map (·.1),L.fs ++ [⟨L.last + 1,(ml.map (·.1)).length,(cH (L.last + 1) (ml.map (·.1))).length⟩],L1.safe⟩:=by
     rw [<- eL]
     exact hfin
    have sE:aS lb db mb tb w15 (.slice ea en ec) (.slice (some ⟨g11,0,none⟩) kf c11) (w16.setCell ⟨lb,2,none⟩ (.slice a10 n10 c10)) (.slice a10 n10 c10) (.slice (some ⟨g11,0,none⟩) kf c11):=⟨G10.out.2,oF A10.out,fun b hb=>.inl hb⟩
    have sF:=S14.out.trans ((aS.below B9.out).trans sE)
    first
     | exact ⟨rfl,_,_,_,hL,sF.1,sF.2.1,sF.2.2⟩
     | (have sG:=sF.trans (aS.below ((Below.refl (w16.setCell ⟨lb,2,none⟩ (.slice a10 n10 c10)).heap.size (w16.setCell ⟨lb,2,none⟩ (.slice a10 n10 c10))).drew));exact ⟨rfl,_,_,_,hL.below ((Below.refl _ _).drew),sG.1,sG.2.1,sG.2.2⟩)
   ·have hkb:((k10:Int) != 0) = true:=by simp;omega
    have HK0:=hid hk0
    clear hk0
    go_wp2_with fail
    go_ret
    rw [HR.out,HNEW.out,if_neg fun q=>q HK1.out,if_pos HK0.out]
    exact ⟨rfl,_,_,_,L10.out,S10.out.1,S10.out.2.1,S10.out.2.2⟩
  ·have hkb:((k1:Int) != 0) = true:=by simp;omega
   have HK1:=hid hk1
   clear hk1
   go_wp2_with fail
   go_ret
   rw [HR.out,HNEW.out,if_pos HK1.out]
   exact ⟨rfl,_,_,_,L6.out,S6.out.1,S6.out.2.1,S6.out.2.2⟩
end Go.Proofs.YtjdglpcnkiioeaaGreat
