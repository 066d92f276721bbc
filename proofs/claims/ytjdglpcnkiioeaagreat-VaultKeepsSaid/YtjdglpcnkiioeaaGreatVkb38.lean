/- Several texts in one: Wya, Wxp, Wys, Wxq, Wxr for vltkeeps_law_holds. No conditions but those stated. -/
import Derived.Test.YtjdglpcnkiioeaaGreatVkb37
set_option maxHeartbeats 16000000
namespace Go.Proofs.YtjdglpcnkiioeaaGreat
open Go.RowKit Go.Maps Go.Proofs.Own Go.Shelf

theorem aHZ (i:Nat) (e:bR):8 <= (eA i e).length:=by unfold eA;rw [dE];omega
theorem aAO:∀ (es:List bR) (i:Nat),8 * es.length <= (linesW i es).length
 | [],_=>Nat.le_refl _
 | e :: es,i=>by
  show _ <= (eA i e ++ linesW (i + 1) es).length
  rw [List.length_append,List.length_cons]
  have:=aHZ i e
  have:=aAO es (i + 1)
  omega
theorem aH0 {i:Nat} {e:bR} (hi:(i:Int) < 18446744073709551616) (ht:e.t < 18446744073709551616) (hk:e.k < 18446744073709551616) (hd:e.d.length <= 5000):(eA i e).length <= 5060:=by
 have h1:(bV [i,e.t.toNat,e.k.toNat]).length <= 27:=jE [i,e.t.toNat,e.k.toNat] (by
  intro x hx
  simp only [List.mem_cons,List.not_mem_nil,or_false] at hx
  rcases hx with rfl | rfl | rfl <;> omega)
 have h2:(cZ e.d.length).length <= 9:=gU (by omega)
 unfold eA kN
 rw [dE,List.length_append,List.length_append]
 omega
theorem aD7 (es:List bR):∀ (i:Nat),(∀ e ∈ es,e.t < 18446744073709551616 /\ e.k < 18446744073709551616 /\ e.d.length <= 5000) -> (i:Int) + es.length < 18446744073709551616 -> (linesW i es).length <= 5060 * es.length:=by
 induction es with
 | nil =>
  intro i _ _
  simp [linesW]
 | cons e es ih =>
  intro i h hi
  show (eA i e ++ linesW (i + 1) es).length <= _
  rw [List.length_append,List.length_cons]
  rw [List.length_cons] at hi
  obtain ⟨h1,h2,h3⟩:=h e (List.mem_cons_self ..)
  have:=aH0 (i:=i) (by omega) h1 h2 h3
  have:=ih (i + 1) (fun e he=>h e (List.mem_cons_of_mem _ he)) (by omega)
  omega
theorem aFl (f:Nat) (es:List bR):8 + 8 * es.length <= (cH f es).length:=by
 unfold cH dH
 rw [List.length_append,dE]
 have:=aAO es f
 omega
theorem oQ (p:aO -> Bool):∀ L:List aO,total (L.filter p) <= total L
 | []=>Nat.le_refl _
 | f :: L=>by
  rw [List.filter_cons,dI]
  have:=oQ p L
  split
  ·rw [dI];omega
  ·omega
theorem aCq:∀ P:List Pc,8 * (cE P).length <= total (P.map Pc.file)
 | []=>Nat.le_refl _
 | p :: P=>by
  rw [jU,List.length_append,List.map_cons,dI]
  have h1:p.file.all.length = (cH p.f p.es).length:=rfl
  have:=aFl p.f p.es
  have:=aCq P
  omega
theorem aFd:∀ P:List Pc,rD (P.map Pc.wf) = (cE P).length
 | []=>rfl
 | p :: P=>by
  rw [List.map_cons,show p.wf :: P.map Pc.wf = [p.wf] ++ P.map Pc.wf from rfl,nD,qQ,aFd P,jU,List.length_append]
  rfl
theorem dF.lok {D:aA} {L:aM} {P:List Pc} (h:dF D L P) (hg:aW D):LOk L /\ L.es.length <= 131072:=by
 have ht:total (P.map Pc.file) <= 1048576:=by
  rw [<- h.fil]
  exact Nat.le_trans (oQ _ _) hg.tot
 have he:=aCq P
 have hes:L.es.length = (cE P).length:=by rw [h.es]
 refine ⟨⟨fun f hf=>?_,?_,by omega,?_,h.safe,fun f hf=>?_⟩,by omega⟩
 ·rw [h.fs] at hf
  obtain ⟨p,hp,rfl⟩:=List.mem_map.1 hf
  exact (aFj h hp).lR
 ·rw [h.fs,aFd,hes]
  exact Nat.le_refl _
 ·have:=h.lo.1
  unfold H59 at this
  omega
 ·rw [h.fs] at hf
  obtain ⟨p,hp,rfl⟩:=List.mem_map.1 hf
  have:=qK (L:=P.map Pc.file) (List.mem_map_of_mem hp)
  show p.w.length <= _
  have h1:p.file.all.length = p.w.length:=rfl
  omega
theorem dF.size {D:aA} {L:aM} {P:List Pc} (h:dF D L P) {f:WF} (hf:f ∈ L.fs):f.s ≠ 0:=by
 rw [h.fs] at hf
 obtain ⟨p,hp,rfl⟩:=List.mem_map.1 hf
 show (cH p.f p.es).length ≠ 0
 have:=aFl p.f p.es
 omega
theorem dF.empty {D:aA} {L:aM} {P:List Pc} (h:dF D L P) (hs:L.safe ≠ L.es.length):L.fs ≠ []:=fun e=>by
 rw [h.fs] at e
 have hP:P = []:=List.map_eq_nil_iff.1 e
 have he:=h.es
 have:=h.safe
 rw [hP] at he
 rw [he] at hs this
 exact hs (Nat.le_zero.1 this)
structure Few (ml:bE):Prop where
 many:ml.length <= 100
 each:∀ p ∈ ml,p.1.t < 18446744073709551616 /\ p.1.k < 18446744073709551616 /\ p.1.d.length <= 5000

theorem aDq {lb db mb tb:Nat} {ev fv mv:Value} {el ml:bE} {D:aA} {L:aM} {P:List Pc} {w:World} (h:bD w lb db mb tb ev fv el D L) (hi:dF D L P) (hg:aW D) (hst:D.steps + 1 <= 1000000000) (hm:qW w (jR lb db mb tb ev fv) mv ml) (hf:Few ml) :
  Calls Tryz.prog 57 #[.pointer (some ⟨lb,0,none⟩),mv] w (fH lb db mb tb ev fv (aR D L (ml.map (·.1))) w):=by
 obtain ⟨hok,hes⟩:=hi.lok hg
 have hl:L.last <= H59:=hi.hi
 have hfs:=hi.few hg
 have hmany:=hf.many
 have hlen:(linesW (L.last + 1) (ml.map (·.1))).length <= 2000000:=by
  refine Nat.le_trans (aD7 _ _ (fun e he=>?_) ?_) ?_
  ·obtain ⟨p,hp,rfl⟩:=List.mem_map.1 he
   exact hf.each p hp
  ·rw [List.length_map]
   unfold H59 at hl
   omega
  ·rw [List.length_map];omega
 by_cases hc:¬ (∀ e ∈ ml.map (·.1),e.ok) \/ H59 < L.last + ml.length \/ ml = []
 ·exact aER h hm hl (by omega) (by omega) hc
 ·have h1:∀ e ∈ ml.map (·.1),e.ok:=Classical.not_not.1 fun q=>hc (.inl q)
  have h2:¬ H59 < L.last + ml.length:=fun q=>hc (.inr (.inl q))
  have h3:ml ≠ []:=fun q=>hc (.inr (.inr q))
  by_cases h4:∃ f,L.fs.getLast? = some f /\ f.s < 1024
  ·obtain ⟨f,hf1,hf2⟩:=h4
   exact aDp h hm hl (by omega) (by omega) hg hok (by omega) (by omega) hf1 (hi.size (List.mem_of_getLast? hf1)) hf2 h1 h2 h3
  ·exact aDr h hm hl hlen (by omega) hg hst hok (by omega) (by omega) hi.empty (fun f hf=>Nat.not_lt.1 fun q=>h4 ⟨f,hf,q⟩) h1 h2 h3
end Go.Proofs.YtjdglpcnkiioeaaGreat
namespace Go.Proofs.YtjdglpcnkiioeaaGreat
open Go.Lib (hid)
open Go.RowKit Go.Maps Go.Proofs.Own Go.Shelf

section
variable {P:Program} {t e:TypeId} {sz:Nat} (ht:P.underlying t = some (.slice e)) (hz:(P.info? e).map (·.size) = some sz)
include ht hz
theorem cS.aHu (q:IntKind) {w:World} {v:Value} {rs:List (List Value)} (h:cS w sz v rs) (lo:Nat) (h1:lo <= rs.length) :
  ∃ v',cS w sz v' (rs.drop lo) /\ v'.ownBlock = v.ownBlock /\ ∀ w',(Instr.slice t v (Option.some (Value.int q lo)) none none).run P w' = .ok v' w':=by
 obtain ⟨a,c,rfl,hl⟩:=h.shape
 obtain ⟨i,hi',hs⟩:=Option.map_eq_some_iff.1 hz
 have hel:P.elem t = e:=by simp [Program.elem,ht]
 have hh:=h.sliced lo rs.length c h1 (Nat.le_refl _) (by omega)
 rw [List.take_length] at hh
 refine ⟨_,hh,kQ _ _ _ _ _ _ _,fun w'=>?_⟩
 rw [run_slice_l w' t a rs.length c (by rw [hel];exact ht) q lo (by omega) (by omega),hel]
 simp [sizeOf,typeInfo,hi',hs,Result.andThen,go_sem]
theorem cS.aHv (q r:IntKind) {w:World} {v:Value} {rs:List (List Value)} (h:cS w sz v rs) (lo hi:Nat) (h1:lo <= hi) (h2:hi <= rs.length) :
  ∃ v',cS w sz v' ((rs.take hi).drop lo) /\ v'.ownBlock = v.ownBlock /\ ∀ w',(Instr.slice t v (Option.some (Value.int q lo)) (Option.some (Value.int r hi)) none).run P w' = .ok v' w':=by
 obtain ⟨a,c,rfl,hl⟩:=h.shape
 obtain ⟨i,hi',hs⟩:=Option.map_eq_some_iff.1 hz
 have hel:P.elem t = e:=by simp [Program.elem,ht]
 refine ⟨_,h.sliced lo hi c h1 h2 (by omega),kQ _ _ _ _ _ _ _,fun w'=>?_⟩
 rw [run_slice_lh w' t a rs.length c (by rw [hel];exact ht) q r lo hi (by omega) (by omega) (by omega),hel]
 simp [sizeOf,typeInfo,hi',hs,Result.andThen,go_sem]
end
def yI (L:aM) (index:Nat) (most:Int):List bR:=(L.es.drop (max index (L.b + 1) - (L.b + 1))).take most.toNat
def aJD (L:aM) (index:Nat) (most:Int) (w:World):Ending -> World -> Prop:=fun e w'=>∃ v' l',e = .returned v' /\ cA w' 38 3 v' (aL l') /\ l'.map (·.1) = yI L index most /\ bM w' (fun k=>k < w.heap.size) l' /\ (∀ b,v'.ownBlock = some b -> w.heap.size <= b) /\ Below w.heap.size w w'

set_option maxRecDepth 20000 in
theorem aKS {lb db mb tb:Nat} {ev fv:Value} {el:bE} {D:aA} {L:aM} {w:World} (h:bD w lb db mb tb ev fv el D L) (hl:L.last <= H59) (hn:L.es.length <= 2147483648) (index:Nat) (hi:(index:Int) < 18446744073709551616) (most:Int) (hmo:most <= 9223372036854775807) :
  Calls Tryz.prog 18 #[.pointer (some ⟨lb,0,none⟩),.int .u64 index,.int .i64 most] w (aJD L index most w):=by
 have HH:=hid h
 have hla:L.last = L.b + L.es.length:=rfl
 have HB1:=hid (show (L.b:Int) + 1 < 18446744073709551616 by unfold H59 at hl;omega)
 have HB:=hid (show (L.last:Int) < 18446744073709551616 by unfold H59 at hl;omega)
 obtain ⟨lz,hlz⟩:∃ lz:Int,(L.last:Int) = lz:=⟨_,rfl⟩
 have HLZ:=hid hlz
 obtain ⟨ix,hix⟩:∃ ix:Int,(index:Int) = ix:=⟨_,rfl⟩
 obtain ⟨fz,hfz⟩:∃ fz:Int,(L.b:Int) + 1 = fz:=⟨_,rfl⟩
 have HFZ:=hid hfz
 rw [hix]
 by_cases hx:L.last < index
 ·have hxz:lz < ix:=by omega
  have HF:Hid (yI L index most = []):=hid (by
   unfold yI
   rw [List.drop_eq_nil_of_le (by omega),List.take_nil])
  clear h hla hl hn hi hmo hlz hix hfz hx
  go_enter Tryz.func18,Tryz.ntmps18
  go_wp2_with fail
  refine (jO HH.out).mono ?_
  rintro e w1 ⟨rfl,rfl⟩
  go_wp2_with fail
  refine (iI HH.out HB.out).mono ?_
  rintro e w2 ⟨rfl,hb2⟩
  rw [HLZ.out]
  have B2:=hid hb2
  clear hb2
  go_wp2_with fail
  go_ret
  exact ⟨_,[],rfl,cA.nil _ _ _,HF.out.symm,nofun,nofun,B2.out⟩
 ·have hxz:decide (lz < ix) = false:=decide_eq_false (by omega)
  obtain ⟨k,hk⟩:∃ k,max index (L.b + 1) - (L.b + 1) = k:=⟨_,rfl⟩
  have hkl:k <= L.es.length:=by omega
  obtain ⟨n,hnn⟩:∃ n,min most.toNat (L.es.length - k) = n:=⟨_,rfl⟩
  have hll:(el.drop k).length = L.es.length - k:=by rw [List.length_drop,h.xC]
  have HF:Hid (yI L index most = ((el.drop k).take n).map (·.1)):=hid (by
   unfold yI
   rw [hk,List.map_take,List.map_drop,h.es,<- hnn]
   have e:(L.es.drop k).length = L.es.length - k:=List.length_drop
   rw [<- e]
   by_cases hc:most.toNat <= (L.es.drop k).length
   ·rw [Nat.min_eq_left hc]
   ·rw [Nat.min_eq_right (by omega),List.take_length,List.take_of_length_le (by omega)])
  have hlen:k <= (aL el).length:=by rw [aK,h.xC];exact hkl
  obtain ⟨v1,hs1,ho1,hcut1⟩:=cS.aHu (P:=Tryz.prog) (t:=23) Tryz.underlying23 (by kernel_rfl) .u64 h.er.qA k hlen
  have hr1:(aL el).drop k = aL (el.drop k):=by unfold aL;rw [List.map_drop]
  rw [hr1] at hs1
  obtain ⟨v2,hs2,ho2,hcut2⟩:=cS.aHt (P:=Tryz.prog) (t:=23) Tryz.underlying23 (by kernel_rfl) hs1 n (by rw [aK,hll];omega)
  have hr2:(aL (el.drop k)).take n = aL ((el.drop k).take n):=by unfold aL;rw [List.map_take]
  rw [hr2] at hs2
  have HS2:=hid hs2
  have HD2:Hid (bM w (fun _=>False) ((el.drop k).take n)):=hid ((h.dat.sub fun p hp=>List.mem_of_mem_drop (List.mem_of_mem_take hp)).mono fun _ _ _ _ hf=>hf.elim)
  have HL2:Hid (((el.drop k).take n).length <= 2147483648):=hid (by rw [List.length_take,hll];omega)
  obtain ⟨a1,c1,rfl,_⟩:=hs1.shape
  rw [aK,hll] at hcut1 hcut2
  obtain ⟨m,hm⟩:∃ m,L.es.length - k = m:=⟨_,rfl⟩
  rw [hm] at hcut1 hcut2
  obtain ⟨a2,n2,c2,rfl⟩:∃ a n c,v2 = Value.slice a n c:=by obtain ⟨a,c,e,_⟩:=hs2.shape;exact ⟨a,_,c,e⟩
  have c2':=h.c2
  obtain ⟨ea,ec,rfl,_⟩:=h.fU
  obtain ⟨mx,hmx⟩:∃ mx:Int,max ix fz = mx:=⟨_,rfl⟩
  have hxz':=of_decide_eq_false hxz
  have e1:IntKind.u64.wrap (mx - fz) = (k:Int):=by rw [wrap_u64];omega
  obtain ⟨my,hmy⟩:∃ my:Int,max most 0 = my:=⟨_,rfl⟩
  have e2:min my (m:Int) = (n:Int):=by omega
  have i1:(if ix < fz then fz else ix) = mx:=by rw [<- hmx];omega
  have i2:(if most < 0 then 0 else most) = my:=by rw [<- hmy];omega
  have E1:=hid e1
  have E2:=hid e2
  have I1:=hid i1
  have I2:=hid i2
  have HMX:=hid hmx
  have HMY:=hid hmy
  have CUT1:=hid hcut1
  have CUT2:=hid hcut2
  clear hxz' e1 e2 i1 i2 hmx hmy hcut1 hcut2
  clear h hla hl hn hi hmo hlz hix hfz hx hk hkl hnn hll hlen hs1 ho1 hr1 hs2 ho2 hr2 hm
  go_enter Tryz.func18,Tryz.ntmps18
  go_wp2_with fail
  refine (jO HH.out).mono ?_
  rintro e w1 ⟨rfl,rfl⟩
  go_wp2_with fail
  refine (iI HH.out HB.out).mono ?_
  rintro e w2 ⟨rfl,hb2⟩
  rw [HLZ.out]
  have B2:=hid hb2
  have L2:=hid (HH.out.below hb2)
  have c22:=L2.out.c2
  clear hb2
  go_wp2_with fail
  refine (aIJ L2.out HB1.out).mono ?_
  rintro e w3 ⟨rfl,rfl⟩
  rw [HFZ.out]
  go_wp2_with fail
  refine (aIJ L2.out HB1.out).mono ?_
  rintro e w3 ⟨rfl,rfl⟩
  rw [HFZ.out,HMX.out]
  have e1:=E1.out
  have e2:=E2.out
  have hmy:=HMY.out
  have hcut1:=CUT1.out
  have hcut2:=CUT2.out
  go_wp2_with fail
  refine (qM _ _ w2 (HS2.out.below B2.out) (HD2.out.kept (Kept.aJ B2.out (S:=fun _=>False) fun k h1 h2=>by omega) fun _ h=>h) HL2.out).mono ?_
  rintro e w4 ⟨v4,rfl,l4,ho4,hm4,hd4,hn4,hb4⟩
  obtain ⟨a4,n4,c4,rfl⟩:=eH ho4
  go_wp2_with fail
  go_ret
  exact ⟨_,l4,rfl,ho4,by rw [HF.out];exact hm4,hd4.mono fun p hp b _ h=>Nat.lt_of_lt_of_le h B2.out.size,fun b hb=>Nat.le_trans B2.out.size (hn4 b hb),B2.out.trans (hb4.mono B2.out.size)⟩

theorem EC.box (w:World):EC (w.alloc (.cells #[.int .u64 0,.int .i64 0,.slice none 0 0] 38)) w.heap.size 0 0 (.slice none 0 0):=⟨by go_cell,by go_cell,by go_cell,by simp,by simp,by simp⟩
set_option maxRecDepth 20000 in
theorem aII {lb db mb tb:Nat} {ev fv:Value} {el:bE} {D:aA} {L:aM} {w:World} (h:bD w lb db mb tb ev fv el D L) (hl:L.last <= H59) (index:Nat) (hc:index <= L.b \/ L.last < index) :
  Calls Tryz.prog 13 #[.pointer (some ⟨lb,0,none⟩),.int .u64 index] w fun e w'=>e = .returned (.tuple #[.agg #[.int .u64 0,.int .i64 0,.slice none 0 0],.bool false]) /\ Below w.heap.size w w':=by
 have HB:=hid (show (L.last:Int) < 18446744073709551616 by unfold H59 at hl;omega)
 have HH:=hid h
 obtain ⟨ix,hix⟩:∃ ix:Int,(index:Int) = ix:=⟨_,rfl⟩
 obtain ⟨bz,hbz⟩:∃ bz:Int,(L.b:Int) = bz:=⟨_,rfl⟩
 obtain ⟨lz,hlz⟩:∃ lz:Int,(L.last:Int) = lz:=⟨_,rfl⟩
 have HLZ:=hid hlz
 have HBZ:=hid hbz
 rw [hix]
 have hlast:L.last = L.b + L.es.length:=rfl
 clear h hl
 by_cases ha:index <= L.b
 ·have haz:decide (ix <= bz) = true:=decide_eq_true (by omega)
  clear hc ha hix hbz hlz hlast
  go_enter Tryz.func13,Tryz.ntmps13
  go_wp2_with fail
  generalize hW1:World.alloc w _ = W1
  have B1:Hid (Below w.heap.size w W1):=hid (by subst hW1;exact (Below.refl _ _).alloc (Nat.le_refl _) _)
  have X1:Hid (EC W1 w.heap.size 0 0 (.slice none 0 0)):=hid (by subst hW1;exact EC.box w)
  have H1:=hid (HH.out.below B1.out)
  have c1:=H1.out.c1
  rw [HBZ.out] at c1
  clear hW1
  refine (jO H1.out).mono ?_
  rintro e w2 ⟨rfl,rfl⟩
  obtain ⟨x0,x1,x2,f0,f1,f2⟩:=X1.out
  go_wp2_with fail
  have E3:=X1.out.mB
  have K3:=EC.oV W1 w.heap.size (.int .u64 0) (.int .i64 0) (.slice none 0 0)
  obtain ⟨r0,r1,r2,_,_,_⟩:=E3
  refine bodyPost_ret (v:=.tuple #[.agg #[.int .u64 0,.int .i64 0,.slice none 0 0],.bool false]) (by simp [results,Tryz.results13,go_sem,r0,r1,r2]) rfl ?_
  exact ⟨rfl,B1.out.trans (K3.below B1.out.size fun k e=>by omega)⟩
 ·have haz:decide (ix <= bz) = false:=decide_eq_false (by omega)
  have hbx:decide (lz < ix) = true:=decide_eq_true (by omega)
  clear hc ha hix hbz hlz hlast
  go_enter Tryz.func13,Tryz.ntmps13
  go_wp2_with fail
  generalize hW1:World.alloc w _ = W1
  have B1:Hid (Below w.heap.size w W1):=hid (by subst hW1;exact (Below.refl _ _).alloc (Nat.le_refl _) _)
  have X1:Hid (EC W1 w.heap.size 0 0 (.slice none 0 0)):=hid (by subst hW1;exact EC.box w)
  have H1:=hid (HH.out.below B1.out)
  have c1:=H1.out.c1
  rw [HBZ.out] at c1
  clear hW1
  refine (jO H1.out).mono ?_
  rintro e w2 ⟨rfl,rfl⟩
  go_wp2_with fail
  refine (iI H1.out HB.out).mono ?_
  rintro e w2 ⟨rfl,hb2⟩
  rw [HLZ.out]
  have B2:Hid (Below w.heap.size w w2):=hid (B1.out.trans (hb2.mono B1.out.size))
  have X2:=hid (X1.out.below hb2)
  obtain ⟨x0,x1,x2,f0,f1,f2⟩:=X2.out
  clear hb2 c1
  go_wp2_with fail
  have E3:=X2.out.mB
  have K3:=EC.oV w2 w.heap.size (.int .u64 0) (.int .i64 0) (.slice none 0 0)
  obtain ⟨r0,r1,r2,_,_,_⟩:=E3
  refine bodyPost_ret (v:=.tuple #[.agg #[.int .u64 0,.int .i64 0,.slice none 0 0],.bool false]) (by simp [results,Tryz.results13,go_sem,r0,r1,r2]) rfl ?_
  exact ⟨rfl,B2.out.trans (K3.below B2.out.size fun k e=>by omega)⟩
theorem aJm {l:bE} {x:bR} {xv:Value} (h:l.map (·.1) = [(x,xv)].map (·.1)):∃ yv,l = [(x,yv)]:=by
 match l,h with
 | [(y,yv)],h =>
  simp only [List.map_cons,List.map_nil,List.cons.injEq,and_true] at h
  subst h
  exact ⟨yv,rfl⟩
set_option maxRecDepth 20000 in
theorem aJy {lb db mb tb:Nat} {ev fv:Value} {el:bE} {D:aA} {L:aM} {w:World} (h:bD w lb db mb tb ev fv el D L) (hl:L.last <= H59) (hn:L.es.length <= 2147483648) (index:Nat) (hb:L.b < index) {x:bR} (hx:L.es[index - L.b - 1]? = some x) :
  Calls Tryz.prog 13 #[.pointer (some ⟨lb,0,none⟩),.int .u64 index] w fun e w'=>∃ dv,e = .returned (.tuple #[.agg #[.int .u64 x.t,.int .i64 x.k,dv],.bool true]) /\ Bytes w' dv x.d /\ (∀ b,dv.ownBlock = some b -> w.heap.size <= b) /\ Below w.heap.size w w':=by
 have HB:=hid (show (L.last:Int) < 18446744073709551616 by unfold H59 at hl;omega)
 obtain ⟨k,hk⟩:∃ k,index - L.b - 1 = k:=⟨_,rfl⟩
 rw [hk] at hx
 have hkl:=(List.getElem?_eq_some_iff.1 hx).1
 have hke:k < el.length:=by rw [h.xC];exact hkl
 obtain ⟨p,hp⟩:∃ p,el[k] = p:=⟨_,rfl⟩
 have hpx:p.1 = x:=by
  have h1:=hx
  rw [<- h.es,List.getElem?_map,List.getElem?_eq_getElem hke,hp] at h1
  exact Option.some.inj h1
 obtain ⟨px,xv⟩:=p
 simp only at hpx
 subst hpx
 have hlen:k + 1 <= (aL el).length:=by rw [aK];omega
 obtain ⟨v1,hs1,ho1,hcut1⟩:=cS.aHv (P:=Tryz.prog) (t:=23) Tryz.underlying23 (by kernel_rfl) .u64 .u64 h.er.qA k (k + 1) (by omega) hlen
 have hr1:((aL el).take (k + 1)).drop k = aL [(px,xv)]:=by
  unfold aL
  rw [<- List.map_take,<- List.map_drop]
  congr 1
  rw [List.take_succ_eq_append_getElem hke,List.drop_left' (by rw [List.length_take];omega),hp]
 rw [hr1] at hs1
 have HS1:=hid hs1
 have HD1:Hid (bM w (fun _=>False) [(px,xv)]):=hid ((h.dat.sub fun q hq=>by obtain rfl:=List.mem_singleton.1 hq;rw [<- hp];exact List.getElem_mem hke).mono fun _ _ _ _ hf=>hf.elim)
 obtain ⟨v1a,v1n,v1c,rfl⟩:∃ a n c,v1 = Value.slice a n c:=by obtain ⟨a,c,e,_⟩:=hs1.shape;exact ⟨a,_,c,e⟩
 obtain ⟨ix,hix⟩:∃ ix:Int,(index:Int) = ix:=⟨_,rfl⟩
 obtain ⟨bz,hbz⟩:∃ bz:Int,(L.b:Int) = bz:=⟨_,rfl⟩
 obtain ⟨lz,hlz⟩:∃ lz:Int,(L.last:Int) = lz:=⟨_,rfl⟩
 have HLZ:=hid hlz
 have HBZ:=hid hbz
 have HH:=hid h
 have hlast:L.last = L.b + L.es.length:=rfl
 rw [hix]
 have haz:decide (ix <= bz) = false:=decide_eq_false (by omega)
 have hbx:decide (lz < ix) = false:=decide_eq_false (by omega)
 obtain ⟨k1,hk1⟩:∃ k1:Nat,k + 1 = k1:=⟨_,rfl⟩
 rw [hk1] at hcut1
 have e0:ix - bz = (k1:Int):=by omega
 have e1:(k1:Int) - 1 = (k:Int):=by omega
 have hk2:(k1:Int) <= 2147483648:=by omega
 have w1:IntKind.u64.wrap (k1:Int) = (k1:Int):=by rw [wrap_u64];omega
 have w2:IntKind.u64.wrap (k:Int) = (k:Int):=by rw [wrap_u64];omega
 have E0:=hid e0
 have E1:=hid e1
 have W1':=hid w1
 have W2':=hid w2
 obtain ⟨ea,ec,rfl,_⟩:=h.fU
 obtain ⟨en,hen⟩:∃ en,L.es.length = en:=⟨_,rfl⟩
 rw [hen] at HH hcut1
 have CUT:=hid hcut1
 clear h hl hn hb hx hk hkl hke hp hlen hs1 ho1 hr1 hix hbz hlz hlast hk1 e0 e1 hk2 w1 w2 hen hcut1
 go_enter Tryz.func13,Tryz.ntmps13
 go_wp2_with fail
 generalize hW1:World.alloc w _ = W1
 have B1:Hid (Below w.heap.size w W1):=hid (by subst hW1;exact (Below.refl _ _).alloc (Nat.le_refl _) _)
 have X1:Hid (EC W1 w.heap.size 0 0 (.slice none 0 0)):=hid (by subst hW1;exact EC.box w)
 have H1:=hid (HH.out.below B1.out)
 have c1:=H1.out.c1
 rw [HBZ.out] at c1
 clear hW1
 refine (jO H1.out).mono ?_
 rintro e w2 ⟨rfl,rfl⟩
 go_wp2_with fail
 refine (iI H1.out HB.out).mono ?_
 rintro e w3 ⟨rfl,hb3⟩
 rw [HLZ.out]
 have B3:Hid (Below w.heap.size w w3):=hid (B1.out.trans (hb3.mono B1.out.size))
 have L3:=hid (H1.out.below hb3)
 have X3:=hid (X1.out.below hb3)
 have HS3:=hid (HS1.out.below B3.out)
 have HD3:Hid (bM w3 (fun _=>False) [(px,xv)]):=hid (HD1.out.kept (Kept.aJ B3.out (S:=fun _=>False) fun k h1 h2=>by omega) fun _ h=>h)
 clear hb3 c1
 have ST:=aP.from w3
 have e0:=E0.out
 have e1:=E1.out
 have w1:=W1'.out
 have w2:=W2'.out
 have hcut1:=CUT.out
 go_wp2_with fail
 refine aN [0,1,3,7,0,0,32,96,224,496,1008,0,0,4096,12288,28672,63488,131071,262143,524287,1048575,2097151,4194303] 0 (fun w'=>Below w3.heap.size w3 w') (by kernel_rfl) ?_
 refine aB [0,1,2,3,4,5,6,7,8,9,10,11,12,13,14,15,16,17] (by kernel_rfl) (L:=bm 23 262143) (by kernel_rfl) (f':=5) rfl (fun _ _ _ _ h=>h) (fun w o h=>ST.alloc h o) (.inr (by first | exact Below.refl _ _ | exact (Below.refl _ _).drew)) ?_
 simp only [sF,sL]
 iterate 18 (first | (refine aQ _ (by rfl) (fun w' hs=>by have Y:=L3.out.below hs;have b2:=Y.c2;have b1:=Y.c1;rw [HBZ.out] at b1;go_simp;try with_reducible rfl) rfl ?_;simp only [Act.put,sA]) | (refine aD _ (by rfl) (fun w'=>by go_simp;try with_reducible rfl) ?_;simp only [Act.put,sA]))
 refine aE ?_
 refine aI 18 (by kernel_rfl) (L:=bm 23 524287) (by kernel_rfl) ?_
 simp only [sL]
 go_wp2_with fail;refine (qM _ [(px,xv)] w3.drew (HS3.out.below ((Below.refl w3.heap.size w3).drew)) (HD3.out.kept (Kept.aJ ((Below.refl w3.heap.size w3).drew) (S:=fun _=>False) fun k h1 h2=>by omega) fun _ h=>h) (by simp)).mono ?_;rintro e w4 ⟨v4,rfl,l4,ho4,hm4,hd4,hn4,hb4⟩;obtain ⟨yv,rfl⟩:=aJm hm4;have B4:Hid (Below w3.heap.size w3 w4):=hid (((Below.refl w3.heap.size w3).drew).trans hb4);obtain ⟨g4,c4,he4,hc4,hg4⟩:=cA.some ho4 (by simp [aL]);rw [show (aL [(px,yv)]).length = 1 from rfl] at he4 hc4;subst he4;have hq:∀ j u,(fZ (px,yv))[j]? = some u -> w4.cell? ⟨g4,j,none⟩ = some u:=(fun j u hu=>by have h:=ho4.flat j u (by simpa [aL] using hu);rwa [Addr.add_lit,Nat.zero_add] at h);have q0:=hq 0 _ rfl;have q1:=hq 1 _ rfl;have q2:=hq 2 _ rfl;have HB4:Hid (Bytes w4 yv px.d):=hid (hd4 _ (List.mem_singleton_self _)).1;have HN4:Hid (∀ b,yv.ownBlock = some b -> w3.heap.size <= b):=hid (fun b hb=>Nat.not_lt.1 ((hd4 _ (List.mem_singleton_self _)).2.2 b hb));obtain ⟨ya,yc,rfl,_⟩:=HB4.out.shape;have X4:=hid (X3.out.below B4.out);obtain ⟨x0,x1,x2,f0,f1,f2⟩:=X4.out;clear ho4 hm4 hd4 hn4 hb4 hq e0 e1 w1 w2 hcut1 haz hbx;go_wp2_with fail
 refine aF nofun ?_
 refine aI 19 (by kernel_rfl) (L:=bm 23 1048575) (by kernel_rfl) ?_
 simp only [sL]
 go_wp2_with fail
 refine aF nofun ?_
 refine aI 20 (by kernel_rfl) (L:=bm 23 2097151) (by kernel_rfl) ?_
 simp only [sL]
 go_wp2_with fail
 refine aF nofun ?_
 refine aI 21 (by kernel_rfl) (L:=bm 23 4194303) (by kernel_rfl) ?_
 simp only [sL]
 go_wp2_with fail
 refine aF nofun ?_
 refine aB [22] (by kernel_rfl) (L:=bm 23 8388607) (by kernel_rfl) (f':=0) rfl (fun _ _ _ _ h=>h) (fun w o h=>ST.alloc h o) (.inl (by kernel_rfl)) ?_
 simp only [sF,sL]
 iterate 1 (refine aD _ (by rfl) (fun w'=>by go_simp;try with_reducible rfl) ?_;simp only [Act.put,sA])
 refine aE ?_
 refine aT (by kernel_rfl) ?_
 go_wp2_with fail
 have hlt:w.heap.size < w3.heap.size:=X3.out.lt
 have E3:=(X4.out.set px.t px.k).put (.slice ya px.d.length yc)
 have K3:=EC.oV w4 w.heap.size (.int .u64 px.t) (.int .i64 px.k) (.slice ya px.d.length yc)
 obtain ⟨r0,r1,r2,_,_,_⟩:=E3
 refine bodyPost_ret (v:=.tuple #[.agg #[.int .u64 px.t,.int .i64 px.k,.slice ya px.d.length yc],.bool true]) (by simp [results,Tryz.results13,go_sem,r0,r1,r2]) rfl ?_
 have hB:=HB4.out.kept K3 (fun b hb e=>by have:=HN4.out b hb;omega)
 have b4:=B3.out.trans (B4.out.mono B3.out.size)
 have bK:=b4.trans (K3.below b4.size fun k e=>by omega)
 have hN:∀ b,(Value.slice ya px.d.length yc).ownBlock = some b -> w.heap.size <= b:=fun b hb=>by have:=HN4.out b hb;omega
 first
  | exact ⟨_,rfl,hB,hN,bK⟩
  | exact ⟨_,rfl,hB.drew,hN,bK.drew⟩

theorem aIf {D:aA} {L:aM} {f:WF} (hf:L.fs.getLast? = some f) (he:(popW D L).2.2 = 0):(popW D L).2.1.fs.length + 1 = L.fs.length:=xI D L (List.ne_nil_of_mem (List.mem_of_getLast? hf)) he
theorem aDI {frm:Nat} {D:aA} {L:aM} {f:WF} (hf:L.fs.getLast? = some f) (hc:¬ f.f < frm) (he:(popW D L).2.2 = 0):eR frm L.fs.length D L = eR frm (popW D L).2.1.fs.length (popW D L).1 (popW D L).2.1:=by
 have hl:=aIf hf he
 rw [<- hl]
 show (match L.fs.getLast? with | none=>_ | some f=>_) = _
 rw [hf]
 simp only
 rw [if_neg hc,if_neg (fun h=>h he)]
theorem aFL {frm:Nat} {D:aA} {L:aM} {f:WF} (hf:L.fs.getLast? = some f) (hc:¬ f.f < frm) (he:(popW D L).2.2 ≠ 0):eR frm L.fs.length D L = popW D L:=by
 obtain ⟨m,hm⟩:∃ m,L.fs.length = m + 1:=⟨L.fs.length - 1,by have:=List.length_pos_iff.2 (List.ne_nil_of_mem (List.mem_of_getLast? hf));omega⟩
 rw [hm]
 show (match L.fs.getLast? with | none=>_ | some f=>_) = _
 rw [hf]
 simp only
 rw [if_neg hc,if_pos he]
theorem aFJ {frm:Nat} {D:aA} {L:aM} (hf:L.fs = []) (n:Nat):eR frm n D L = (D,L,0):=by
 cases n with
 | zero=>rfl
 | succ n =>
  show (match L.fs.getLast? with | none=>_ | some f=>_) = _
  rw [hf]
  rfl
theorem aFK {frm:Nat} {D:aA} {L:aM} {f:WF} (hf:L.fs.getLast? = some f) (hc:f.f < frm) (n:Nat):eR frm n D L = (D,L,0):=by
 cases n with
 | zero=>rfl
 | succ n =>
  show (match L.fs.getLast? with | none=>_ | some f=>_) = _
  rw [hf]
  simp only
  rw [if_pos hc]
def lastP (fv:Value):Value:=match fv with
 | .slice (some ⟨g,0,none⟩) (m + 1) _=>.pointer (some ⟨g,m * 3,none⟩)
 | _=>.pointer none
theorem aBc {lb db mb tb:Nat} {ev fv:Value} {el:bE} {D:aA} {L:aM} {w:World} (h:bD w lb db mb tb ev fv el D L) (hs:L.fs.length <= 1000000) :
  Calls Tryz.prog 113 #[.pointer (some ⟨lb,0,none⟩)] w fun e w'=>e = .returned (lastP fv) /\ Below w.heap.size w w':=by
 by_cases hn:L.fs = []
 ·refine (vP h hn).mono ?_
  rintro e w' ⟨rfl,rfl⟩
  refine ⟨?_,Below.refl _ _⟩
  obtain ⟨a,c,e,_⟩:=h.oL
  rw [hn] at e
  subst e
  unfold lastP
  split
  ·rename_i h1
   simp at h1
  ·rfl
 ·obtain ⟨m,hmm⟩:∃ m,L.fs.length = m + 1:=⟨L.fs.length - 1,by have:=List.length_pos_iff.2 hn;omega⟩
  obtain ⟨g,c,rfl,hcc,hgg⟩:=cA.some h.fr (by simpa using hn)
  refine (fN h (m:=m) (by rw [List.length_map];exact hmm) (by rw [List.length_map];omega)).mono ?_
  rintro e w' ⟨rfl,hb⟩
  refine ⟨?_,hb⟩
  rw [List.length_map,hmm]
  rfl
structure jQ (D:aA) (L:aM):Prop where
 inv:∃ P,dF D L P
 up:D.down = false
 ris:bA D.files
 fB:aW D
theorem jQ.pop {D:aA} {L:aM} (h:jQ D L) (hne:L.fs ≠ []) (he:(popW D L).2.2 = 0) (hs:D.steps + 1 <= 1000000000):jQ (popW D L).1 (popW D L).2.1 /\ (popW D L).1.steps <= D.steps + 1 /\ (popW D L).2.1.b = L.b:=by
 obtain ⟨⟨P,hi⟩,hd,hr,hg⟩:=h
 have hP:P ≠ []:=fun e=>hne (by rw [hi.fs,e];rfl)
 obtain ⟨A,z,rfl⟩:=eP hP
 have hg2:=aAT L hg hs
 rcases xJ hi hd hr with ⟨h1,_⟩ | ⟨_,h2,h3,h4,h5,_⟩
 ·rw [h1] at he
  cases he
 ·exact ⟨⟨⟨A,h4⟩,h2,h3,hg2.1⟩,hg2.2,h5⟩

set_option maxRecDepth 20000 in
theorem aLd {lb db mb tb:Nat} {ev fv:Value} {el:bE} {D:aA} {L:aM} {w:World} (h:bD w lb db mb tb ev fv el D L) (hi:jQ D L) (hst:D.steps + 200 <= 1000000000) (frm:Nat) (hfr:(frm:Int) < 18446744073709551616) :
  Calls Tryz.prog 61 #[.pointer (some ⟨lb,0,none⟩),.int .u64 frm] w (fH lb db mb tb ev fv (fY D L frm) w):=by
 have HH:=hid h
 have HI:=hid hi
 obtain ⟨P0,hinv⟩:=hi.inv
 have hl:L.last <= H59:=hinv.hi
 have hla:L.last = L.b + L.es.length:=rfl
 have hfew:=hinv.few hi.fB
 have HST:Hid (D.steps + L.fs.length + 10 <= 1000000000):=hid (by omega)
 have HFW:Hid (L.fs.length <= 128):=hid hfew
 have HB:=hid (show (L.last:Int) < 18446744073709551616 by unfold H59 at hl;omega)
 obtain ⟨lz,hlz⟩:∃ lz:Int,(L.last:Int) = lz:=⟨_,rfl⟩
 have HLZ:=hid hlz
 obtain ⟨fr,hfrz⟩:∃ fr:Int,(frm:Int) = fr:=⟨_,rfl⟩
 have HFR:=hid hfrz
 obtain ⟨bz,hbz⟩:∃ bz:Int,(L.b:Int) = bz:=⟨_,rfl⟩
 have HBZ:=hid hbz
 have c1:=h.c1
 rw [hbz] at c1
 have hl1:lz <= 576460752303423488:=by unfold H59 at hl;omega
 have hl0:0 <= lz:=by omega
 have hb1:bz <= lz:=by omega
 have hb0:0 <= bz:=by omega
 have hf0:0 <= fr:=by omega
 have hf1:fr < 18446744073709551616:=by omega
 rw [hfrz]
 by_cases ha:frm <= L.b
 ·have haz:decide (fr <= bz) = true:=decide_eq_true (by omega)
  have HR:Hid (fY D L frm = (D,L,2)):=hid (by unfold fY;rw [if_pos (.inl ha)])
  clear h hi hinv hl hla hfew hst hfr hlz hfrz hbz ha hl1 hl0 hb1 hb0 hf0 hf1
  go_enter Tryz.func61,Tryz.ntmps61
  go_wp2_with fail
  refine (jO HH.out).mono ?_
  rintro e w1 ⟨rfl,rfl⟩
  go_wp2_with fail
  go_ret
  rw [HR.out]
  exact ⟨rfl,_,_,_,HH.out,aS.refl _ _ _ _ _ _ _⟩
 ·have haz:decide (fr <= bz) = false:=decide_eq_false (by omega)
  have wz:IntKind.u64.wrap (lz + 1) = lz + 1:=by rw [wrap_u64];omega
  by_cases hb:L.last + 1 < frm
  ·have hbx:decide (lz + 1 < fr) = true:=decide_eq_true (by omega)
   have HR:Hid (fY D L frm = (D,L,2)):=hid (by unfold fY;rw [if_pos (.inr hb)])
   clear h hi hinv hl hla hfew hst hfr hlz hfrz hbz ha hb hl1 hl0 hb1 hb0 hf0 hf1
   go_enter Tryz.func61,Tryz.ntmps61
   go_wp2_with fail
   refine (jO HH.out).mono ?_
   rintro e w1 ⟨rfl,rfl⟩
   go_wp2_with fail
   refine (iI HH.out HB.out).mono ?_
   rintro e w2 ⟨rfl,hb2⟩
   rw [HLZ.out]
   have L2:=hid (HH.out.below hb2)
   have B2:Hid (aS lb db mb tb w ev fv w2 ev fv):=hid (aS.below hb2)
   clear hb2
   go_wp2_with fail
   go_ret
   rw [HR.out]
   exact ⟨rfl,_,_,_,L2.out,B2.out⟩
  ·have hbx:decide (lz + 1 < fr) = false:=decide_eq_false (by omega)
   have HR:Hid (fY D L frm = if (eR frm L.fs.length D L).2.2 ≠ 0 then eR frm L.fs.length D L
    else if (eR frm L.fs.length D L).2.1.last < frm then ((eR frm L.fs.length D L).1,(eR frm L.fs.length D L).2.1,0)
    else rS (eR frm L.fs.length D L).1 (eR frm L.fs.length D L).2.1 frm):=hid (by unfold fY;rw [if_neg (fun q=>q.elim ha hb)])
   have HBF:Hid (L.b < frm):=hid (by omega)
   have HNUM:Hid (lz <= 576460752303423488 /\ 0 <= lz /\ bz <= lz /\ 0 <= bz /\ 0 <= fr /\ fr < 18446744073709551616 /\ bz < fr /\ fr <= lz + 1):=hid ⟨hl1,hl0,hb1,hb0,hf0,hf1,by have:=of_decide_eq_false haz;omega,by have:=of_decide_eq_false hbx;omega⟩
   clear h hi hinv hl hla hfew hst hfr hlz hfrz hbz ha hb hl1 hl0 hb1 hb0 hf0 hf1
   go_enter Tryz.func61,Tryz.ntmps61
   go_wp2_with fail
   refine (jO HH.out).mono ?_
   rintro e w1 ⟨rfl,rfl⟩
   go_wp2_with fail
   refine (iI HH.out HB.out).mono ?_
   rintro e w2 ⟨rfl,hb2⟩
   rw [HLZ.out]
   have L2:=hid (HH.out.below hb2)
   have S2:Hid (aS lb db mb tb w ev fv w2 ev fv):=hid (aS.below hb2)
   clear hb2
   go_wp2_with fail
   refine (aBc L2.out (by have:=HFW.out;omega)).mono ?_
   rintro e w3 ⟨rfl,hb3⟩
   have L3:=hid (L2.out.below hb3)
   have S3:Hid (aS lb db mb tb w ev fv w3 ev fv):=hid (S2.out.trans (aS.below hb3))
   clear hb3 c1
   go_wp2_with fail
   go_loopw [5] (fun y wr=>∃ D' L' ev' fv' el',y = lastP fv' /\ bD wr lb db mb tb ev' fv' el' D' L' /\ aS lb db mb tb w ev fv wr ev' fv' /\ eR frm L'.fs.length D' L' = eR frm L.fs.length D L /\ jQ D' L' /\ L'.b = L.b /\ D'.steps + L'.fs.length + 10 <= 1000000000 /\ L'.fs.length <= 128) (fun _ wr=>pR lb wr)
   case atStart=>exact ⟨D,L,ev,fv,el,rfl,L3.out,S3.out,rfl,HI.out,rfl,HST.out,HFW.out⟩
   case round =>
    obtain ⟨D',L',ev',fv',el',rfl,hl,hst,hr,hi,hbb,hs,hf⟩:=hrel
    have HL:=hid hl
    have HS:=hid hst
    have HRF:=hid hr
    have HI':=hid hi
    have HBB:=hid hbb
    have HS':=hid hs
    have HF':=hid hf
    have HOK:=hid ((hi.inv.choose_spec.lok hi.fB).1)
    clear hl hst hr hi hbb hs hf
    obtain ⟨lz',hlz'⟩:∃ lz':Int,(L'.last:Int) = lz':=⟨_,rfl⟩
    have HLZ':=hid hlz'
    have hlast:L'.last <= H59:=HI'.out.inv.choose_spec.hi
    have HB':=hid (show (L'.last:Int) < 18446744073709551616 by unfold H59 at hlast;omega)
    by_cases hne:L'.fs = []
    ·have HE:Hid (eR frm L.fs.length D L = (D',L',0)):=hid (by rw [<- HRF.out,aFJ hne])
     have hq:L'.last < frm:=by
      obtain ⟨P,hinv⟩:=HI'.out.inv
      have hP:P = []:=by have h:=hinv.fs;rw [hne] at h;exact List.map_eq_nil_iff.1 h.symm
      have he:=hinv.es
      rw [hP] at he
      have h1:L'.last = L'.b + L'.es.length:=rfl
      rw [he,HBB.out] at h1
      rw [h1]
      exact HBF.out
     have hqz:decide (lz' < fr) = true:=decide_eq_true (by have:=HFR.out;omega)
     have HQ:=hid hq
     have hlp:lastP fv' = .pointer none:=by
      obtain ⟨a,c,e,_⟩:=HL.out.oL
      rw [hne] at e
      subst e
      unfold lastP
      split
      ·rename_i h1
       simp at h1
      ·rfl
     rw [hlp]
     clear hne hq hlp hlast hlz'
     go_wp2_with fail
     refine (iI HL.out HB'.out).mono ?_
     rintro e w5 ⟨rfl,hb5⟩
     rw [HLZ'.out]
     have L5:=hid (HL.out.below hb5)
     have S5:=hid (HS.out.trans (aS.below hb5))
     clear hb5
     go_wp2_with fail
     go_ret
     rw [HR.out,HE.out,if_neg (fun q=>q rfl),if_pos HQ.out]
     exact ⟨rfl,_,_,_,L5.out,S5.out.1,S5.out.2.1,S5.out.2.2⟩
    ·obtain ⟨f,hf⟩:∃ f,L'.fs.getLast? = some f:=⟨_,List.getLast?_eq_some_getLast hne⟩
     obtain ⟨m,hm⟩:∃ m,L'.fs.length = m + 1:=⟨L'.fs.length - 1,by have:=List.length_pos_iff.2 hne;omega⟩
     obtain ⟨g,c,rfl,hc,hg⟩:=cA.some HL.out.fr (by simpa using hne)
     rw [List.length_map] at HL HS hc ⊢
     obtain ⟨n,hn⟩:∃ n,L'.fs.length = n:=⟨_,rfl⟩
     have HN:=hid hn
     rw [hn] at HL HS hc ⊢
     have hnm:n = m + 1:=by omega
     have hlp:lastP (.slice (some ⟨g,0,none⟩) n c) = .pointer (some ⟨g,m * 3,none⟩):=by rw [hnm];rfl
     rw [hlp]
     have HF:=hid hf
     have HM:=hid hm
     have HNE:=hid hne
     obtain ⟨q0,q1,q2⟩:=HL.out.fS hf hm
     obtain ⟨ff,hff⟩:∃ ff:Int,(f.f:Int) = ff:=⟨_,rfl⟩
     have HFF:=hid hff
     rw [hff] at q0
     clear hlp hm hg hn hlast
     by_cases hfc:f.f < frm
     ·have hfz:decide (fr <= ff) = false:=decide_eq_false (by have:=HFR.out;omega)
      have HE:Hid (eR frm L.fs.length D L = (D',L',0)):=hid (by rw [<- HRF.out,aFK hf hfc])
      have HFC:=hid hfc
      clear hf hne hfc hc hnm
      by_cases hq:L'.last < frm
      ·have hqz:decide (lz' < fr) = true:=decide_eq_true (by have:=HFR.out;omega)
       have HQ:=hid hq
       clear hq hlz'
       go_wp2_with fail
       refine (iI HL.out HB'.out).mono ?_
       rintro e w5 ⟨rfl,hb5⟩
       rw [HLZ'.out]
       have L5:=hid (HL.out.below hb5)
       have S5:=hid (HS.out.trans (aS.below hb5))
       clear hb5
       go_wp2_with fail
       go_ret
       rw [HR.out,HE.out,if_neg (fun q=>q rfl),if_pos HQ.out]
       exact ⟨rfl,_,_,_,L5.out,S5.out.1,S5.out.2.1,S5.out.2.2⟩
      ·have hqz:decide (lz' < fr) = false:=decide_eq_false (by have:=HFR.out;omega)
       have HQ0:=hid hq
       clear hq
       go_wp2_with fail
       refine (iI HL.out HB'.out).mono ?_
       rintro e w5 ⟨rfl,hb5⟩
       rw [HLZ'.out]
       have L5:=hid (HL.out.below hb5)
       have S5:=hid (HS.out.trans (aS.below hb5))
       clear hb5 q0 q1 q2
       obtain ⟨ea,ec,rfl,_⟩:=L5.out.fU
       obtain ⟨en,hen⟩:∃ en,L'.es.length = en:=⟨_,rfl⟩
       have HEN:=hid hen
       rw [hen] at L5 S5
       have FACTS:(f.f = L'.b + 1 + (L'.es.length - f.m) /\ f.m <= L'.es.length /\ f.f <= H59) /\ (linesW f.f (L'.es.drop (f.f - L'.b - 1))).length <= 1048576 /\ (1 <= f.f /\ f.f < 1152921504606846976):=by
        obtain ⟨P,hinv⟩:=HI'.out.inv
        have hP:P ≠ []:=fun e=>HNE.out (by rw [hinv.fs,e];rfl)
        obtain ⟨A,z,rfl⟩:=eP hP
        have hz:f = z.wf:=by have:=(mF hinv).1;rw [HF.out] at this;exact Option.some.inj this
        subst hz
        have hzf:z.f = L'.b + 1 + (cE A).length:=(Chain.app.1 hinv.ch).2.1
        have hes:L'.es = cE A ++ z.es:=by rw [hinv.es,cX,dY]
        have hlen:L'.es.length = (cE A).length + z.es.length:=by rw [hes,List.length_append]
        have hzm:z ∈ A ++ [z]:=List.mem_append_right _ (List.mem_singleton_self z)
        refine ⟨⟨?_,?_,hinv.lo.2 z hzm⟩,?_,hinv.lR hzm⟩
        ·show z.f = L'.b + 1 + (L'.es.length - z.es.length)
         omega
        ·show z.es.length <= L'.es.length
         omega
        ·have hd:L'.es.drop (z.wf.f - L'.b - 1) = z.es:=by
          rw [hes,show z.wf.f - L'.b - 1 = (cE A).length by show z.f - L'.b - 1 = _;omega]
          exact List.drop_left' rfl
         rw [hd]
         have ht:total ((A ++ [z]).map Pc.file) <= 1048576:=by
          rw [<- hinv.fil]
          exact Nat.le_trans (oQ _ _) HI'.out.fB.tot
         have h1:=qK (L:=(A ++ [z]).map Pc.file) (List.mem_map_of_mem (f:=Pc.file) hzm)
         have h2:z.file.all.length = (dH z.f).length + (linesW z.f z.es).length:=by show (cH z.f z.es).length = _;unfold cH;rw [List.length_append]
         show (linesW z.f z.es).length <= _
         omega
       obtain ⟨⟨k1,k2,k3⟩,k4,k5⟩:=FACTS
       have HNM:=hid k5
       have HQL:Hid (frm <= L'.last):=hid (Nat.not_lt.1 HQ0.out)
       obtain ⟨tq,htq⟩:∃ tq,f.f - L'.b - 1 = tq:=⟨_,rfl⟩
       obtain ⟨mq,hmq⟩:∃ mq,frm - f.f = mq:=⟨_,rfl⟩
       obtain ⟨hq,hhq⟩:∃ hq,tq + mq = hq:=⟨_,rfl⟩
       have hlast':L'.last = L'.b + L'.es.length:=rfl
       have hfc:=HFC.out
       have hql:=HQL.out
       have hhl:hq <= L'.es.length:=by omega
       have hjj:frm - L'.b - 1 = hq:=by omega
       have HJJ:=hid hjj
       have HHL:=hid hhl
       have HTQ:=hid htq
       have HMQ:=hid hmq
       have hlen:hq <= (aL el').length:=by rw [aK,L5.out.xC];exact hhl
       obtain ⟨v1,hs1,ho1,hcut1⟩:=cS.aHv (P:=Tryz.prog) (t:=23) Tryz.underlying23 (by kernel_rfl) .u64 .u64 L5.out.er.qA tq hq (by omega) hlen
       have hr1:((aL el').take hq).drop tq = aL ((el'.drop tq).take mq):=by
        unfold aL
        rw [List.map_take,List.map_drop,List.drop_take,show hq - tq = mq by omega]
       rw [hr1] at hs1
       have HS1:=hid hs1
       have HD1:Hid (bM w5 (fun _=>False) ((el'.drop tq).take mq)):=hid ((L5.out.dat.sub fun p hp=>List.mem_of_mem_drop (List.mem_of_mem_take hp)).mono fun _ _ _ _ hf=>hf.elim)
       obtain ⟨ms,hms⟩:∃ ms,(L'.es.drop tq).take mq = ms:=⟨_,rfl⟩
       have HMSE:=hid hms
       have HMS:Hid (((el'.drop tq).take mq).map (·.1) = ms):=hid (by rw [<- hms,List.map_take,List.map_drop,L5.out.es])
       have HLN:Hid ((linesW f.f ms).length <= 1048576):=hid (by
        rw [<- hms]
        exact Nat.le_trans (aAP f.f mq _) (by rw [<- htq];exact k4))
       have HMN:Hid (ms.length <= 2147483648):=hid (by
        rw [<- hms,List.length_take,List.length_drop]
        have:=(HOK.out).few
        omega)
       have HFI:Hid (f.f <= 1152921506754330625):=hid (by have:=k5.2;omega)
       have HALL:Hid (∀ e ∈ ms,e.ok):=hid (by
        obtain ⟨P,hinv⟩:=HI'.out.inv
        intro e he
        rw [<- hms] at he
        exact hinv.ok e (List.mem_of_mem_drop (List.mem_of_mem_take he)))
       obtain ⟨bz',hbz'⟩:∃ bz':Int,(L'.b:Int) = bz':=⟨_,rfl⟩
       have ebz:bz' = bz:=by rw [<- hbz',HBB.out];exact HBZ.out
       subst ebz
       have HBZ':=hid hbz'
       have hfrz:=HFR.out
       have k3':ff <= 576460752303423488:=by unfold H59 at k3;omega
       have hmi:fr - ff = (mq:Int):=by omega
       have hti:ff - bz' - 1 = (tq:Int):=by omega
       have hti0:ff - bz' = (tq:Int) + 1:=by omega
       have hhi:(tq:Int) + (mq:Int) = (hq:Int):=by omega
       have hji0:fr - bz' = (hq:Int) + 1:=by omega
       have hb59:(hq:Int) <= 2147483648:=by have:=(HOK.out).few;omega
       have hm59:(mq:Int) <= 2147483648:=by omega
       have ht59:(tq:Int) <= 2147483648:=by omega
       have w1':IntKind.u64.wrap (mq:Int) = (mq:Int):=by rw [wrap_u64];omega
       have w2':IntKind.i64.wrap (mq:Int) = (mq:Int):=by simp only [IntKind.wrap_i64];omega
       have w3':IntKind.u64.wrap ((tq:Int) + 1) = (tq:Int) + 1:=by rw [wrap_u64];omega
       have w4':IntKind.u64.wrap (tq:Int) = (tq:Int):=by rw [wrap_u64];omega
       have w5':IntKind.u64.wrap (hq:Int) = (hq:Int):=by rw [wrap_u64];omega
       have w6':IntKind.u64.wrap ((hq:Int) + 1) = (hq:Int) + 1:=by rw [wrap_u64];omega
       have w7':IntKind.i64.wrap (hq:Int) = (hq:Int):=by simp only [IntKind.wrap_i64];omega
       have wh':wrap64 (hq:Int) = (hq:Int):=by unfold wrap64;omega
       have w8':(tq:Int) + 1 - 1 = (tq:Int):=by omega
       have w9':(hq:Int) + 1 - 1 = (hq:Int):=by omega
       have HNF:Hid (L'.fs.length <= 1000000):=hid (by have:=HF'.out;omega)
       have hs':(n:Int) <= 4294967296:=by have:=HF'.out;have:=HN.out;omega
       have hnm:n = m + 1:=by have:=HN.out;have:=HM.out;omega
       have HV1:=hid hs1
       obtain ⟨v1a,v1n,v1c,rfl⟩:∃ a n c,v1 = Value.slice a n c:=by obtain ⟨a,c,e,_⟩:=hs1.shape;exact ⟨a,_,c,e⟩
       clear k1 k2 k3 k4 k5 htq hmq hhq hlast' hfc hql hhl hjj hlen hs1 ho1 hr1 hms hbz' hfrz hen hlz'
       go_wp2_with fail
       refine (fN L5.out hnm hs').mono ?_
       rintro e w6 ⟨rfl,hb6⟩
       have L6:=hid (L5.out.below hb6)
       have S6:=hid (S5.out.trans (aS.below hb6))
       have HS6:=hid (HS1.out.below hb6)
       have HD6:Hid (bM w6 (fun _=>False) ((el'.drop tq).take mq)):=hid (HD1.out.kept (Kept.aJ hb6 (S:=fun _=>False) fun k h1 h2=>by omega) fun _ h=>h)
       obtain ⟨q0,q1,q2⟩:=L6.out.fS HF.out HM.out
       rw [HFF.out] at q0
       have c1':=L6.out.c1
       rw [HBZ'.out] at c1'
       clear hb6
       go_wp2_with fail
       go_quiet (fail)
       generalize hwq:World.drewN w6 _ = wq
       have BQ:Below w6.heap.size w6 wq:=by subst hwq;exact Below.drewN _ _
       have HQ:=hid (L6.out.below BQ)
       have SQ:=hid (S6.out.trans (aS.below BQ))
       have HSQ:=hid (HS6.out.below BQ)
       have HDQ:Hid (bM wq (fun _=>False) ((el'.drop tq).take mq)):=hid (HD6.out.kept (Kept.aJ BQ (S:=fun _=>False) fun k h1 h2=>by omega) fun _ h=>h)
       have STq:=aP.from wq
       clear hwq BQ q0 q1 q2 c1'
       go_wp2_with fail
       refine aN [0,1,3,7,0,16,48,112,0,0,0,1024,3584,8176,16383,32767,65535,65535,131071,524287] 0 (fun w'=>Below wq.heap.size wq w') (by kernel_rfl) ?_
       refine aB [0,1,2,3,4,5,6,7,8,9,10,11,12,13] (by kernel_rfl) (L:=bm 20 16383) (by kernel_rfl) (f':=6) rfl (fun _ _ _ _ h=>h) (fun w o h=>STq.alloc h o) (.inr (by first | exact Below.refl _ _ | exact (Below.refl _ _).drew)) ?_
       simp only [sF,sL]
       iterate 14 (first | (refine aQ _ (by rfl) (fun w' hs=>by have Y:=HQ.out.below hs;have b2:=Y.c2;obtain ⟨y0,y1,y2⟩:=Y.fS HF.out HM.out;rw [HFF.out] at y0;go_simp;try with_reducible rfl) rfl ?_;simp only [Act.put,sA]) | (refine aD _ (by rfl) (fun w'=>by go_simp;try with_reducible rfl) ?_;simp only [Act.put,sA]))
       refine aE ?_
       refine aI 14 (by kernel_rfl) (L:=bm 20 32767) (by kernel_rfl) ?_
       simp only [sL]
       go_wp2_with fail;have WL:=aBY (i:=f.f) (w:=wq.drew) (HSQ.out.below ((Below.refl wq.heap.size wq).drew)) (HDQ.out.kept (Kept.aJ ((Below.refl wq.heap.size wq).drew) (S:=fun _=>False) fun k h1 h2=>by omega) fun _ h=>h) HMS.out (by have:=HLN.out;omega) HMN.out HFI.out;rw [HFF.out] at WL;refine WL.mono ?_;clear WL;rintro e u14 ⟨hb14,hyes,_⟩;obtain ⟨bv,rfl,hown,hblt⟩:=hyes HALL.out;have I14:Hid (Below wq.heap.size wq u14):=hid (((Below.refl wq.heap.size wq).drew).trans hb14);obtain ⟨ba,bc,rfl⟩:=hown.shape;clear hyes hown hblt hb14;go_wp2_with fail
       refine aF nofun ?_
       refine aB [15,16,17,18,19] (by kernel_rfl) (L:=bm 20 1048575) (by kernel_rfl) (f':=0) rfl (fun _ _ _ _ h=>h) (fun w o h=>STq.alloc h o) (.inl (by kernel_rfl)) ?_
       simp only [sF,sL]
       iterate 5 (refine aD _ (by rfl) (fun w'=>by go_simp;try with_reducible rfl) ?_;simp only [Act.put,sA])
       refine aE ?_
       refine aT (by kernel_rfl) ?_
       obtain ⟨bn,hbn⟩:∃ bn,(ints (linesW f.f ms)).length = bn:=⟨_,rfl⟩
       have HBN:Hid ((linesW f.f ms).length = bn):=hid (by rw [<- hbn,aX])
       rw [hbn]
       have L14:=hid (HQ.out.below I14.out)
       have S14:=hid (SQ.out.trans (aS.below I14.out))
       obtain ⟨q0,q1,q2⟩:=L14.out.fS HF.out HM.out
       rw [HFF.out] at q0
       clear hbn
       go_wp2_with fail
       have WG:=aAE f.f u14 (by have:=HNM.out.2;omega)
       rw [HFF.out] at WG
       refine WG.mono ?_
       clear WG
       rintro e w7 ⟨hv,rfl,ho7,hb7⟩
       obtain ⟨ha7,hc7,rfl⟩:=ho7.shape
       obtain ⟨hn7,hhn⟩:∃ hn,(ints (dH f.f)).length = hn:=⟨_,rfl⟩
       have HHN:Hid ((dH f.f).length = hn7):=hid (by rw [<- hhn,aX])
       rw [hhn]
       obtain ⟨sz,hsz⟩:∃ sz:Nat,hn7 + bn = sz:=⟨_,rfl⟩
       have HSZ:Hid ((dH f.f).length + (linesW f.f ((L'.es.drop (f.f - L'.b - 1)).take (frm - f.f))).length = sz):=hid (by rw [HTQ.out,HMQ.out,HMSE.out,HHN.out,HBN.out];exact hsz)
       have hszi:(hn7:Int) + (bn:Int) = (sz:Int):=by omega
       have wsz:IntKind.i64.wrap (sz:Int) = (sz:Int):=by
        have h1:=(wK (n:=f.f) (by have:=HNM.out.2;omega)).1
        have h2:=HLN.out
        have h3:=HHN.out
        have h4:=HBN.out
        simp only [IntKind.wrap_i64]
        omega
       have LS:=hid (L14.out.below hb7)
       have SS:=hid (S14.out.trans (aS.below hb7))
       have HNS:Hid ((aH f.f).size <= maxLen):=hid (Nat.le_trans (eM f.f) (by decide))
       generalize w7 = ws at *
       have STs:=aP.from ws
       clear ho7 hb7 hhn hsz q0 q1 q2
       go_wp2_with fail
       refine aN [0,1,3,7,0,16,48,112,0,511,1023] 128 (fun w'=>Below ws.heap.size ws w') (by kernel_rfl) ?_
       refine aB [0,1,2,3,4,5,6,8] (by kernel_rfl) (L:=bm 11 383) (by kernel_rfl) (f':=3) rfl (fun _ _ _ _ h=>h) (fun w o h=>STs.alloc h o) (.inr (by first | exact Below.refl _ _ | exact (Below.refl _ _).drew)) ?_
       simp only [sF,sL]
       iterate 8 (first | (refine aQ _ (by rfl) (fun w' hs=>by have Y:=LS.out.below hs;have b0:=Y.c0;obtain ⟨y0,y1,y2⟩:=Y.fS HF.out HM.out;rw [HFF.out] at y0;go_simp;try with_reducible rfl) rfl ?_;simp only [Act.put,sA]) | (refine aD _ (by rfl) (fun w'=>by go_simp;try with_reducible rfl) ?_;simp only [Act.put,sA]))
       refine aE ?_
       refine aI 7 (by kernel_rfl) (L:=bm 11 511) (by kernel_rfl) ?_
       simp only [sL]
       go_wp2_with fail;have WN:=oY f.f f.m f.s ws.drew HNM.out.1 HNM.out.2;rw [HFF.out] at WN;refine WN.mono ?_;clear WN;rintro e u7 ⟨rfl,hb7⟩;have I7:Hid (Below ws.heap.size ws u7):=hid (by first | exact hb7 | exact ((Below.refl _ _).drew).trans hb7);clear hb7;go_wp2_with fail
       refine aF (fun _=>I7.out) ?_
       refine aI 9 (by kernel_rfl) (L:=bm 11 1023) (by kernel_rfl) ?_
       simp only [sL]
       go_wp2_with fail;have L7:=hid (LS.out.below I7.out);refine (yC db mb tb D' (aH f.f) sz u7 L7.out.dN HI'.out.fB.wf HNS.out).mono ?_;rintro e w4 ⟨rfl,hd4,hk4⟩;have L4:Hid (bD w4 lb db mb tb (.slice ea en ec) (.slice (some ⟨g,0,none⟩) n c) el' (cutD D' (aH f.f) sz).1 L'):=hid (L7.out.jT hd4 hk4);have S4:Hid (aS lb db mb tb w ev fv w4 (.slice ea en ec) (.slice (some ⟨g,0,none⟩) n c)):=hid (SS.out.trans ((aS.below I7.out).trans (aS.dN hk4)));clear hd4 hk4;obtain ⟨k,hk⟩:∃ k,(cutD D' (aH f.f) sz).2 = k:=⟨_,rfl⟩;have HK:=hid hk;rw [hk];clear hk;go_wp2_with fail
       refine aF nofun ?_
       refine aB [10] (by kernel_rfl) (L:=bm 11 2047) (by kernel_rfl) (f':=0) rfl (fun _ _ _ _ h=>h) (fun w o h=>STs.alloc h o) (.inl (by kernel_rfl)) ?_
       simp only [sF,sL]
       iterate 1 (refine aD _ (by rfl) (fun w'=>by go_simp;try with_reducible rfl) ?_;simp only [Act.put,sA])
       refine aE ?_
       refine aT (by kernel_rfl) ?_
       by_cases hk0:k = 0
       ·have hkb:((k:Int) != 0) = false:=by rw [hk0];rfl
        have HK0:Hid ((cutD D' (aH f.f) sz).2 = 0):=hid (HK.out.trans hk0)
        obtain ⟨q0,q1,q2⟩:=L4.out.fS HF.out HM.out
        have z1:=cA.lW L4.out.fr (m * 3 + 1)
        have z2:=cA.lW L4.out.fr (m * 3 + 2)
        have c1':=L4.out.c1
        rw [HBZ'.out] at c1'
        have hgl:¬ g = lb:=(L4.out.nf g rfl).1
        have hgl':¬ lb = g:=fun e=>hgl e.symm
        have d1:((w4.setCell ⟨g,m * 3 + 1,none⟩ (.int .i64 (mq:Nat))).setCell ⟨g,m * 3 + 2,none⟩ (.int .i64 (sz:Nat))).cell? ⟨lb,1,none⟩ = some (.int .u64 bz'):=by rw [<- HBZ'.out];exact (L4.out.xL HF.out HM.out mq sz).c1
        clear hk0 k3' hmi hti hti0 hhi hb59 hm59 ht59 w1' w2' w3' w4' w8' hszi wsz hqz hfz haz hbx wz hs' hnm hcut1
        go_wp2_with fail
        have L5':=hid (L4.out.xL HF.out HM.out mq sz)
        have S5':Hid (aS lb db mb tb w4 (.slice ea en ec) (.slice (some ⟨g,0,none⟩) n c) ((w4.setCell ⟨g,m * 3 + 1,none⟩ (.int .i64 (mq:Nat))).setCell ⟨g,m * 3 + 2,none⟩ (.int .i64 (sz:Nat))) (.slice ea en ec) (.slice (some ⟨g,0,none⟩) n c)):=hid ⟨((Kept.setCell w4 ⟨g,m * 3 + 1,none⟩ _).trans (Kept.setCell _ ⟨g,m * 3 + 2,none⟩ _)).mono fun b _ e=>.inr (.inr (.inr (by rw [e];rfl))),fun b hb=>.inl hb,fun b hb=>.inl hb⟩
        refine (aFv L5'.out hq HHL.out).mono ?_
        rintro e w8 ⟨rfl,ev8,hl8,hb8,hk8⟩
        have L8:=hid hl8
        have S8:Hid (aS lb db mb tb w ev fv w8 ev8 (.slice (some ⟨g,0,none⟩) n c)):=hid (S4.out.trans (S5'.out.trans ⟨hk8.mono fun k _ e=>.inl e,fun b hb=>.inl (hb8 ▸ hb),fun b hb=>.inl hb⟩))
        clear hl8 hb8 hk8 d1 q0 q1 q2 c1' z1 z2
        go_wp2_with fail
        go_ret
        have HC:rS D' L' frm = ((cutD D' (aH f.f) sz).1,⟨L'.b,L'.es.take hq,L'.fs.dropLast ++ [⟨f.f,mq,sz⟩],min L'.safe hq⟩,0):=by
         unfold rS
         rw [HF.out]
         simp only
         rw [HSZ.out,if_neg (fun q=>q HK0.out),HJJ.out,HMQ.out]
        rw [HR.out,HE.out,if_neg (fun q=>q rfl),if_neg HQ0.out,HC]
        exact ⟨rfl,_,_,_,L8.out,S8.out.1,S8.out.2.1,S8.out.2.2⟩
       ·have hkb:((k:Int) != 0) = true:=by simp;omega
        have HK0:Hid ((cutD D' (aH f.f) sz).2 ≠ 0):=hid (by rw [HK.out];exact hk0)
        clear hk0
        go_wp2_with fail
        go_ret
        have HC:rS D' L' frm = ((cutD D' (aH f.f) sz).1,L',(cutD D' (aH f.f) sz).2):=by
         unfold rS
         rw [HF.out]
         simp only
         rw [HSZ.out,if_pos HK0.out]
        rw [HR.out,HE.out,if_neg (fun q=>q rfl),if_neg HQ0.out,HC]
        exact ⟨by rw [HK.out];rfl,_,_,_,L4.out,S4.out.1,S4.out.2.1,S4.out.2.2⟩
     ·have hfz:decide (fr <= ff) = true:=decide_eq_true (by have:=HFR.out;omega)
      have HFC:=hid hfc
      clear hf hne hfc hc hnm
      go_wp2_with fail
      refine (aKU HL.out HI'.out.fB.wf HOK.out HNE.out (by have:=HF'.out;omega)).mono ?_
      rintro e w4 ⟨rfl,ev2,fv2,el2,hl2,hst2⟩
      have L4:=hid hl2
      have S4:=hid (HS.out.trans hst2)
      obtain ⟨k,hk⟩:∃ k,(popW D' L').2.2 = k:=⟨_,rfl⟩
      have HK:=hid hk
      rw [hk]
      clear hl2 hst2 hk q0 q1 q2
      by_cases hk0:k = 0
      ·have bk:((k:Int) != 0) = false:=by rw [hk0];rfl
       have HK0:Hid ((popW D' L').2.2 = 0):=hid (HK.out.trans hk0)
       have HP:=hid (HI'.out.pop HNE.out HK0.out (by have:=HS'.out;omega))
       have HFS:=hid (xI D' L' HNE.out HK0.out)
       clear hk0
       go_wp2_with fail
       refine (aBc L4.out (by have:=HF'.out;have:=HFS.out;omega)).mono ?_
       rintro e w5 ⟨rfl,hb5⟩
       have L5:=hid (L4.out.below hb5)
       have S5:=hid (S4.out.trans (aS.below hb5))
       clear hb5
       go_wp2_with fail
       go_roundw
       case rel =>
        refine ⟨(popW D' L').1,(popW D' L').2.1,ev2,fv2,el2,rfl,L5.out,S5.out,?_,HP.out.1,HP.out.2.2.trans HBB.out,?_,?_⟩
        ·rw [<- HRF.out,aDI HF.out HFC.out HK0.out]
        ·have:=HP.out.2.1;have:=HS'.out;have:=HFS.out;omega
        ·have:=HF'.out;have:=HFS.out;omega
       case measure =>
        have:=HFS.out
        rw [HL.out.nfs,L5.out.nfs]
        omega
      ·have bk:((k:Int) != 0) = true:=by simp;omega
       have HK0:Hid ((popW D' L').2.2 ≠ 0):=hid (by rw [HK.out];exact hk0)
       clear hk0
       go_wp2_with fail
       go_ret
       have HE:eR frm L.fs.length D L = popW D' L':=by rw [<- HRF.out,aFL HF.out HFC.out HK0.out]
       rw [HR.out,HE,if_pos HK0.out]
       exact ⟨by rw [HK.out];rfl,_,_,_,L4.out,S4.out.1,S4.out.2.1,S4.out.2.2⟩

theorem aFX {D:aA} {L:aM} {p q:Pc} {s:List Pc} (h:dF D L (p :: q :: s)) (hd:D.down = false) (hr:bA D.files) :
  ((removeD D (aH p.f)).2 = 50 /\ (removeD D (aH p.f)).1.down = true) \/
  ((removeD D (aH p.f)).2 = 0 /\ (removeD D (aH p.f)).1.down = false /\ bA (removeD D (aH p.f)).1.files /\ dF (removeD D (aH p.f)).1 ⟨L.b + p.es.length,L.es.drop p.es.length,(q :: s).map Pc.wf,L.safe - p.es.length⟩ (q :: s) /\ p.es.length <= L.safe /\ p.es.length <= L.es.length):=by
 have hf:=nC (A:=[]) hr h.fil (h.lR (List.mem_cons_self ..))
 have hel:L.es = p.es ++ cE (q :: s):=h.es
 rcases oJ hd hf with ⟨k1,k2,k3⟩ | ⟨k1,k2,k3⟩
 ·exact .inl ⟨k1,k2⟩
 ·have hes:L.es.drop p.es.length = cE (q :: s):=by
   rw [hel]
   exact List.drop_left' rfl
  have hlen:L.es.length = p.es.length + (cE (q :: s)).length:=by rw [hel,List.length_append]
  have hqf:q.f = L.b + 1 + p.es.length:=h.ch.2.1
  have hq59:=h.lo.2 q (List.mem_cons_of_mem _ (List.mem_cons_self ..))
  have hsafe:p.es.length <= L.safe:=by
   obtain ⟨A,z,e⟩:=eP (P:=q :: s) (by simp)
   have:=(h.kept (p :: A) z (by rw [e];rfl)).1
   rw [jU,List.length_append] at this
   omega
  refine .inr ⟨k1,k2,?_,⟨?_,rfl,hes,?_,?_,?_,?_,?_,?_,(by show L.b + p.es.length < H59;omega),fun x hx=>h.lo.2 x (List.mem_cons_of_mem _ hx)⟩,hsafe,by omega⟩
  ·rw [k3]
   exact hr.del _
  ·show (removeD D (aH p.f)).1.files.filter isW = _
   rw [k3]
   exact aBy (A:=[]) hr h.fil
  ·have:=h.ch.2
   rw [show L.b + 1 + p.es.length = L.b + p.es.length + 1 by omega] at this
   exact this
  ·intro e he
   exact h.ok e (List.mem_of_mem_drop he)
  ·show L.b + p.es.length + (L.es.drop p.es.length).length <= H59
   have:=h.hi
   rw [hes]
   omega
  ·intro x hx
   refine h.full x ?_
   show x ∈ p :: (q :: s).dropLast
   exact List.mem_cons_of_mem _ hx
  ·show L.safe - p.es.length <= (L.es.drop p.es.length).length
   have:=h.safe
   rw [hes]
   omega
  ·intro B y e
   have hB:p :: q :: s = (p :: B) ++ [y]:=by rw [List.cons_append,<- e]
   obtain ⟨s1,s2⟩:=h.kept (p :: B) y hB
   rw [jU,List.length_append] at s1 s2
   show (cE B).length <= L.safe - p.es.length /\ _
   refine ⟨by omega,?_⟩
   rcases s2 with ⟨p0,p1,p2⟩ | ⟨j,j1,j2,j3⟩
   ·exact .inl ⟨p0,by show L.safe - p.es.length = _;omega,p2⟩
   ·exact .inr ⟨j,j1,by show L.safe - p.es.length <= _;omega,j3⟩
def aAA (L:aM) (f:WF) (r:List WF):aM:=⟨L.b + f.m,L.es.drop f.m,r,L.safe - f.m⟩
theorem jQ.dropped {D:aA} {L:aM} (h:jQ D L) {f g:WF} {r:List WF} (hf:L.fs = f :: g :: r) (hs:D.steps + 1 <= 1000000000) (he:(removeD D (aH f.f)).2 = 0) :
  jQ (removeD D (aH f.f)).1 (aAA L f (g :: r)) /\ (removeD D (aH f.f)).1.steps <= D.steps + 1 /\ f.m <= L.safe /\ f.m <= L.es.length:=by
 obtain ⟨⟨P,hi⟩,hd,hr,hg⟩:=h
 have hfs:=hi.fs
 rw [hf] at hfs
 match P,hfs with
 | p :: q :: s,hfs =>
  simp only [List.map_cons,List.cons.injEq] at hfs
  obtain ⟨rfl,rfl,rfl⟩:=hfs
  have hg2:=hg.remove (aH p.f) hs
  rcases aFX hi hd hr with ⟨h1,_⟩ | ⟨_,h2,h3,h4,h5,h6⟩
  ·have he':(removeD D (aH p.f)).2 = 0:=he
   rw [h1] at he'
   cases he'
  ·exact ⟨⟨⟨q :: s,h4⟩,h2,h3,hg2.1⟩,hg2.2,h5,h6⟩
theorem aCn {upto:Nat} {D:aA} {L:aM} {f g:WF} {r:List WF} (hf:L.fs = f :: g :: r) (hc:g.f <= upto + 1) (he:(removeD D (aH f.f)).2 = 0):dropF upto L.fs.length D L = dropF upto (aAA L f (g :: r)).fs.length (removeD D (aH f.f)).1 (aAA L f (g :: r)):=by
 have hl:L.fs.length = (g :: r).length + 1:=by rw [hf];rfl
 rw [hl]
 show (match L.fs with | f :: g :: r=>_ | _=>_) = _
 rw [hf]
 simp only
 rw [if_pos hc,if_neg (fun h=>h he)]
 rfl
theorem aDQ {upto:Nat} {D:aA} {L:aM} {f g:WF} {r:List WF} (hf:L.fs = f :: g :: r) (hc:g.f <= upto + 1) (he:(removeD D (aH f.f)).2 ≠ 0):dropF upto L.fs.length D L = ((removeD D (aH f.f)).1,L,(removeD D (aH f.f)).2):=by
 have hl:L.fs.length = (g :: r).length + 1:=by rw [hf];rfl
 rw [hl]
 show (match L.fs with | f :: g :: r=>_ | _=>_) = _
 rw [hf]
 simp only
 rw [if_pos hc,if_pos he]
theorem aDP {upto:Nat} {D:aA} {L:aM} {f g:WF} {r:List WF} (hf:L.fs = f :: g :: r) (hc:¬ g.f <= upto + 1) (n:Nat):dropF upto n D L = (D,L,0):=by
 cases n with
 | zero=>rfl
 | succ n =>
  show (match L.fs with | f :: g :: r=>_ | _=>_) = _
  rw [hf]
  simp only
  rw [if_neg hc]
theorem dropF_few {upto:Nat} {D:aA} {L:aM} (hf:L.fs.length <= 1) (n:Nat):dropF upto n D L = (D,L,0):=by
 cases n with
 | zero=>rfl
 | succ n =>
  show (match L.fs with | f :: g :: r=>_ | _=>_) = _
  split
  ·rename_i h
   rw [h] at hf
   simp at hf
  ·rfl
structure FB (W:World) (b:Nat) (f:WF):Prop where
 c0:W.cell? ⟨b,0,none⟩ = some (.int .u64 f.f)
 c1:W.cell? ⟨b,1,none⟩ = some (.int .i64 f.m)
 c2:W.cell? ⟨b,2,none⟩ = some (.int .i64 f.s)
theorem FB.kept {W W':World} {b:Nat} {f:WF} {S:Nat -> Prop} (h:FB W b f) (hk:Kept W W' S) (hs:¬ S b):FB W' b f:=⟨hk.cell h.c0 hs,hk.cell h.c1 hs,hk.cell h.c2 hs⟩
theorem FB.below {W W':World} {b:Nat} {f:WF} (h:FB W b f) (hb:Below W.heap.size W W'):FB W' b f:=h.kept (Kept.aJ hb (S:=fun _=>False) fun k h1 h2=>by omega) id
structure FB4 (W:World) (b:Nat) (f:WF) (lb s:Nat):Prop where
 fb:FB W b f
 c4:W.cell? ⟨lb,4,none⟩ = some (.int .i64 s)
theorem FB4.below {W W':World} {b:Nat} {f:WF} {lb s:Nat} (h:FB4 W b f lb s) (hb:Below W.heap.size W W'):FB4 W' b f lb s:=⟨h.fb.below hb,Below.at hb h.c4 (World.block_lt_of_cell? _ _ h.c4)⟩
theorem FB4.sD {W:World} {b:Nat} {f:WF} {lb s:Nat} (h:FB4 W b f lb s) (v:Value) (hb:b ≠ lb):FB4 (W.setCell ⟨lb,1,none⟩ v) b f lb s:=⟨h.fb.kept (Kept.setCell W ⟨lb,1,none⟩ v) hb,by rw [World.cell?_setCell_other _ _ _ _ (by simp)];exact h.c4⟩

set_option maxRecDepth 20000 in
theorem aJN {lb db mb tb:Nat} {ev fv:Value} {el:bE} {D:aA} {L:aM} {w:World} (h:bD w lb db mb tb ev fv el D L) (hi:jQ D L) (hst:D.steps + 200 <= 1000000000) (upto:Nat) (hup:(upto:Int) < 18446744073709551616) :
  Calls Tryz.prog 62 #[.pointer (some ⟨lb,0,none⟩),.int .u64 upto] w (fH lb db mb tb ev fv (eI D L upto) w):=by
 have HH:=hid h
 have HI:=hid hi
 obtain ⟨P0,hinv⟩:=hi.inv
 have hl:L.last <= H59:=hinv.hi
 have hfew:=hinv.few hi.fB
 have HST:Hid (D.steps + L.fs.length + 10 <= 1000000000):=hid (by omega)
 have HFW:Hid (L.fs.length <= 128):=hid hfew
 have HB:=hid (show (L.last:Int) < 18446744073709551616 by unfold H59 at hl;omega)
 obtain ⟨lz,hlz⟩:∃ lz:Int,(L.last:Int) = lz:=⟨_,rfl⟩
 have HLZ:=hid hlz
 obtain ⟨up,hupz⟩:∃ up:Int,(upto:Int) = up:=⟨_,rfl⟩
 have HUP:=hid hupz
 have hl1:lz <= 576460752303423488:=by unfold H59 at hl;omega
 rw [hupz]
 by_cases ha:L.last < upto
 ·have haz:decide (lz < up) = true:=decide_eq_true (by omega)
  have HR:Hid (eI D L upto = (D,L,2)):=hid (by unfold eI;rw [if_pos ha])
  clear h hi hinv hl hfew hst hup hlz hupz ha hl1
  go_enter Tryz.func62,Tryz.ntmps62
  go_wp2_with fail
  refine (jO HH.out).mono ?_
  rintro e w1 ⟨rfl,rfl⟩
  go_wp2_with fail
  refine (iI HH.out HB.out).mono ?_
  rintro e w2 ⟨rfl,hb2⟩
  rw [HLZ.out]
  have L2:=hid (HH.out.below hb2)
  have B2:Hid (aS lb db mb tb w ev fv w2 ev fv):=hid (aS.below hb2)
  clear hb2
  go_wp2_with fail
  go_ret
  rw [HR.out]
  exact ⟨rfl,_,_,_,L2.out,B2.out⟩
 ·have haz:decide (lz < up) = false:=decide_eq_false (by omega)
  have HU:Hid (0 <= up /\ up <= 576460752303423488):=hid ⟨by omega,by omega⟩
  have hu1:=HU.out
  have wz:IntKind.u64.wrap (up + 1) = up + 1:=by rw [wrap_u64];omega
  have HR:Hid (eI D L upto = dropF upto L.fs.length D L):=hid (by unfold eI;rw [if_neg ha])
  clear hu1 h hi hinv hl hfew hst hup hlz hupz ha hl1
  go_enter Tryz.func62,Tryz.ntmps62
  go_wp2_with fail
  refine (jO HH.out).mono ?_
  rintro e w1 ⟨rfl,rfl⟩
  go_wp2_with fail
  refine (iI HH.out HB.out).mono ?_
  rintro e w2 ⟨rfl,hb2⟩
  rw [HLZ.out]
  have L2:=hid (HH.out.below hb2)
  have S2:Hid (aS lb db mb tb w ev fv w2 ev fv):=hid (aS.below hb2)
  clear hb2
  go_wp2_with fail
  go_loopw [] (fun wr=>∃ D' L' ev' fv' el',bD wr lb db mb tb ev' fv' el' D' L' /\ aS lb db mb tb w ev fv wr ev' fv' /\ dropF upto L'.fs.length D' L' = dropF upto L.fs.length D L /\ jQ D' L' /\ D'.steps + L'.fs.length + 10 <= 1000000000 /\ L'.fs.length <= 128) (fun wr=>pR lb wr)
  case atStart=>exact ⟨D,L,ev,fv,el,L2.out,S2.out,rfl,HI.out,HST.out,HFW.out⟩
  case round =>
   obtain ⟨D',L',ev',fv',el',hl,hst,hr,hi,hs,hf⟩:=hrel
   have HL:=hid hl
   have HS:=hid hst
   have HRF:=hid hr
   have HI':=hid hi
   have HS':=hid hs
   have HF':=hid hf
   have HOK:=hid ((hi.inv.choose_spec.lok hi.fB).1)
   have c3:=hl.c3
   obtain ⟨fa,fc,rfl,hfc⟩:=hl.oL
   obtain ⟨n,hn⟩:∃ n,L'.fs.length = n:=⟨_,rfl⟩
   have HN:=hid hn
   rw [hn] at c3 HL HS hfc
   clear hl hst hr hi hs hf
   by_cases h1:n <= 1
   ·have hn1:decide ((1:Int) < (n:Int)) = false:=decide_eq_false (by omega)
    have HE:Hid (dropF upto L.fs.length D L = (D',L',0)):=hid (by rw [<- HRF.out,dropF_few (by omega)])
    clear h1 hfc hn
    go_wp2_with fail
    go_ret
    rw [HR.out,HE.out]
    exact ⟨rfl,_,_,_,HL.out,HS.out.1,HS.out.2.1,HS.out.2.2⟩
   ·have hn1:decide ((1:Int) < (n:Int)) = true:=decide_eq_true (by omega)
    have hn1':(1:Int) < (n:Int):=by omega
    have hn0':(0:Int) < (n:Int):=by omega
    obtain ⟨f,g1,r,hfs⟩:∃ f g1 r,L'.fs = f :: g1 :: r:=by
     match e:L'.fs with
     | []=>rw [e] at hn;simp at hn;omega
     | [x]=>rw [e] at hn;simp at hn;omega
     | x :: y :: r=>exact ⟨x,y,r,rfl⟩
    obtain ⟨g,c',e1,hc',hg'⟩:=cA.some HL.out.fr (by rw [hfs];simp)
    have e3:=(Value.slice.inj e1).1
    have e4:=(Value.slice.inj e1).2.2
    clear e1 hc' hg'
    subst e3 e4
    have HFS:=hid hfs
    obtain ⟨x0,x1,x2⟩:=HL.out.aHl (k:=0) (by omega)
    have q0:=(HL.out.aHl (k:=1) (by omega)).1
    simp only [hfs,List.getElem_cons_zero,List.getElem_cons_succ,Nat.zero_mul,Nat.zero_add,Nat.one_mul] at x0 x1 x2 q0
    obtain ⟨gf,hgf⟩:∃ gf:Int,(g1.f:Int) = gf:=⟨_,rfl⟩
    rw [hgf] at q0
    by_cases hc:g1.f <= upto + 1
    ·have hcz:decide (gf <= up + 1) = true:=decide_eq_true (by have:=HUP.out;omega)
     have HC:=hid hc
     have HNM:=hid ((HOK.out).nm f (by rw [hfs];exact List.mem_cons_self ..))
     have HNS:Hid ((aH f.f).size <= maxLen):=hid (Nat.le_trans (eM f.f) (by decide))
     have HFM:Hid (f.m <= L'.es.length):=hid ((HOK.out).m (by rw [hfs];exact List.mem_cons_self ..))
     have HB59:Hid ((L'.b:Int) <= 1152921504606846976 /\ (L'.es.length:Int) <= 2147483648):=hid ⟨by have:=(HOK.out).b;omega,by have:=(HOK.out).few;omega⟩
     obtain ⟨ea,ec,rfl,_⟩:=HL.out.fU
     obtain ⟨en,hen⟩:∃ en,L'.es.length = en:=⟨_,rfl⟩
     have HEN:=hid hen
     rw [hen] at HL HS
     have hgc:=HL.out.lt
     clear h1 hn hfc hfs hgf hc hen
     go_wp2_with fail
     generalize hwa:World.alloc wr _ = wa
     have BA:Below wr.heap.size wr wa:=by subst hwa;exact (Below.refl _ _).alloc (Nat.le_refl _) _
     have FA:Hid (FB wa wr.heap.size f):=hid (by subst hwa;exact ⟨by go_cell,by go_cell,by go_cell⟩)
     have LA:=hid (HL.out.below BA)
     have SA:=hid (HS.out.trans (aS.below BA))
     have HNB:Hid (¬ bB db mb tb wr.heap.size):=hid (fun h=>by have:=HL.out.dN.lt3 _ h;omega)
     have HFB:Hid (wr.heap.size ≠ lb):=hid (by omega)
     clear BA hwa q0 x0 x1 x2 c3 hgc
     generalize wr.heap.size = fb at *
     have STa:=aP.from wa
     go_wp2_with fail
     refine aN [0,1,3,7,0,16,63,127] 32 (fun w'=>Below wa.heap.size wa w') (by kernel_rfl) ?_
     refine aB [0,1,2,3,4] (by kernel_rfl) (L:=Go.Proofs.Own.bm 8 31) (by kernel_rfl) (f':=3) rfl (fun _ _ _ _ h=>h) (fun w o h=>STa.alloc h o) (.inr (by first | exact Below.refl _ _ | exact (Below.refl _ _).drew)) ?_
     simp only [sF,sL]
     iterate 5 (first | (refine aQ _ (by rfl) (fun w' hs=>by have Y:=LA.out.below hs;have b0:=Y.c0;obtain ⟨y0,y1,y2⟩:=FA.out.below hs;go_simp;try with_reducible rfl) rfl ?_;simp only [Act.put,sA]) | (refine aD _ (by rfl) (fun w'=>by go_simp;try with_reducible rfl) ?_;simp only [Act.put,sA]))
     refine aE ?_
     refine aI 5 (by kernel_rfl) (L:=Go.Proofs.Own.bm 8 63) (by kernel_rfl) ?_
     simp only [sL]
     go_wp2_with fail;refine (oY f.f f.m f.s _ HNM.out.1 HNM.out.2).mono ?_;rintro e u5 ⟨rfl,hb5⟩;have I5:Hid (Below wa.heap.size wa u5):=hid (by first | exact hb5 | exact ((Below.refl _ _).drew).trans hb5);clear hb5;go_wp2_with fail
     refine aF (fun _=>I5.out) ?_
     refine aI 6 (by kernel_rfl) (L:=Go.Proofs.Own.bm 8 127) (by kernel_rfl) ?_
     simp only [sL]
     go_wp2_with fail;have L5:=hid (LA.out.below I5.out);refine (kJ db mb tb D' (aH f.f) u5 L5.out.dN HI'.out.fB.wf HNS.out).mono ?_;rintro e w6 ⟨rfl,hd6,hk6⟩;have L6:Hid (bD w6 lb db mb tb (.slice ea en ec) (.slice (some ⟨g,0,none⟩) n fc) el' (removeD D' (aH f.f)).1 L'):=hid (L5.out.jT hd6 hk6);have S6:Hid (aS lb db mb tb w ev fv w6 (.slice ea en ec) (.slice (some ⟨g,0,none⟩) n fc)):=hid (SA.out.trans ((aS.below I5.out).trans (aS.dN hk6)));have F6:=hid ((FA.out.below I5.out).kept hk6 HNB.out);clear hd6 hk6;obtain ⟨k,hk⟩:∃ k,(removeD D' (aH f.f)).2 = k:=⟨_,rfl⟩;have HK:=hid hk;rw [hk];clear hk;go_wp2_with fail
     refine aF nofun ?_
     refine aB [7] (by kernel_rfl) (L:=Go.Proofs.Own.bm 8 255) (by kernel_rfl) (f':=0) rfl (fun _ _ _ _ h=>h) (fun w o h=>STa.alloc h o) (.inl (by kernel_rfl)) ?_
     simp only [sF,sL]
     iterate 1 (refine aD _ (by rfl) (fun w'=>by go_simp;try with_reducible rfl) ?_;simp only [Act.put,sA])
     refine aE ?_
     refine aT (by kernel_rfl) ?_

     by_cases hk0:k = 0
     ·have hkb:((k:Int) != 0) = false:=by rw [hk0];rfl
      have HK0:Hid ((removeD D' (aH f.f)).2 = 0):=hid (HK.out.trans hk0)
      have HD:=hid (HI'.out.dropped HFS.out (by have:=HS'.out;omega) HK0.out)
      clear hk0
      have hm1:f.m <= (aL el').length:=by rw [aK,L6.out.xC,];exact HFM.out
      obtain ⟨v7',hs7,ho7,hcut7⟩:=cS.aI0 (P:=Tryz.prog) (t:=32) Tryz.underlying32 (by kernel_rfl) L6.out.fr.qA 1 (by rw [List.length_map,HFS.out];simp)
      have hr7:(L'.fs.map dD).drop 1 = (g1 :: r).map dD:=by rw [HFS.out];rfl
      rw [hr7] at hs7
      have H7:=hid hs7
      obtain ⟨v8',hs8,ho8,hcut8⟩:=cS.aHu (P:=Tryz.prog) (t:=23) Tryz.underlying23 (by kernel_rfl) .i64 L6.out.er.qA f.m hm1
      have hr8:(aL el').drop f.m = aL (el'.drop f.m):=by unfold aL;rw [List.map_drop]
      rw [hr8] at hs8
      have H8:=hid hs8
      have HD8:Hid (bM w6 (fun _=>False) (el'.drop f.m)):=hid ((L6.out.dat.sub fun p hp=>List.mem_of_mem_drop hp).mono fun _ _ _ _ hf=>hf.elim)
      have HLN:Hid ((g1 :: r).length <= 2147483648):=hid (by have:=HF'.out;have:=HFS.out;have e:L'.fs.length = (g1 :: r).length + 1:=(by rw [HFS.out];rfl);omega)
      have HLE:Hid ((el'.drop f.m).length <= 2147483648):=hid (by rw [List.length_drop,L6.out.xC];have:=(HOK.out).few;omega)
      have hcut7':∀ w',(Instr.slice 32 (.slice (some ⟨g,0,none⟩) n fc) (some (.int .i64 1)) none none).run Tryz.prog w' = .ok v7' w':=hcut7
      obtain ⟨p7,n7',c7',rfl⟩:∃ a n c,v7' = Value.slice a n c:=by obtain ⟨a,c,e,_⟩:=hs7.shape;exact ⟨a,_,c,e⟩
      obtain ⟨p8,n8',c8',rfl⟩:∃ a n c,v8' = Value.slice a n c:=by obtain ⟨a,c,e,_⟩:=hs8.shape;exact ⟨a,_,c,e⟩
      have ST6:=aP.from w6
      clear hs7 ho7 hr7 hs8 ho8 hr8 hm1 hcut7
      go_wp2_with fail
      refine aN [0,0,0,4,12,28,60,124,0,256,768,1792,0,4096,16128,32764,65533,131069,262141,524287,1048575,2097151] 128 (fun w'=>Below w6.heap.size w6 w') (by kernel_rfl) ?_
      refine aB [0,1,2,3,4,5,6,8,9,10,11,12,13,14] (by kernel_rfl) (L:=Go.Proofs.Own.bm 22 32639) (by kernel_rfl) (f':=8) rfl (fun _ _ _ _ h=>h) (fun w o h=>ST6.alloc h o) (.inr (by first | exact Below.refl _ _ | exact (Below.refl _ _).drew)) ?_
      simp only [sF,sL]
      iterate 14 (first | (refine aQ _ (by rfl) (fun w' hs=>by have Y:=L6.out.below hs;have b2:=Y.c2;have b3:=Y.c3;obtain ⟨y0,y1,y2⟩:=F6.out.below hs;go_simp;try with_reducible rfl) rfl ?_;simp only [Act.put,sA]) | (refine aD _ (by rfl) (fun w'=>by go_simp;try with_reducible rfl) ?_;simp only [Act.put,sA]))
      refine aE ?_
      refine aI 7 (by kernel_rfl) (L:=Go.Proofs.Own.bm 22 32767) (by kernel_rfl) ?_
      simp only [sL]
      go_wp2_with fail;refine (yF _ (g1 :: r) _ (H7.out.below (by first | exact Below.refl _ _ | exact (Below.refl _ _).drew)) HLN.out).mono ?_;rintro e w7 ⟨v7,rfl,ho7,hb7,hn7⟩;have I7:Hid (Below w6.heap.size w6 w7):=hid (by first | exact hb7 | exact ((Below.refl _ _).drew).trans hb7);have O7:=hid ho7;have N7:Hid (∀ b,v7.ownBlock = some b -> w6.heap.size <= b):=hid hn7;obtain ⟨a7,n7,c7,rfl⟩:∃ a n c,v7 = Value.slice a n c:=(by obtain ⟨a,c,e,_⟩:=ho7.shape;exact ⟨a,_,c,e⟩);clear ho7 hb7 hn7;go_wp2_with fail
      refine aF (fun _=>I7.out) ?_
      refine aI 15 (by kernel_rfl) (L:=Go.Proofs.Own.bm 22 65535) (by kernel_rfl) ?_
      simp only [sL]
      go_wp2_with fail;refine (yE _ (el'.drop f.m) w7 (H8.out.below I7.out) (HD8.out.kept (Kept.aJ I7.out (S:=fun _=>False) fun k h1 h2=>by omega) fun _ h=>h) HLE.out).mono ?_;rintro e w8 ⟨v8,rfl,ho8,hb8,hn8⟩;have I8:Hid (Below w6.heap.size w6 w8):=hid (I7.out.trans (hb8.mono I7.out.size));have O8:=hid ho8;have O78:=hid (O7.out.below hb8);have N8:Hid (∀ b,v8.ownBlock = some b -> w7.heap.size <= b):=hid hn8;obtain ⟨a8,n8,c8,rfl⟩:∃ a n c,v8 = Value.slice a n c:=(by obtain ⟨a,c,e,_⟩:=ho8.shape;exact ⟨a,_,c,e⟩);have HN78:Hid (w7.heap.size <= w8.heap.size):=hid hb8.size;have F8:=hid (F6.out.below I8.out);have L8:=hid (L6.out.below I8.out);clear ho8 hb8 hn8;go_wp2_with fail
      refine aF nofun ?_
      refine aB [16,17] (by kernel_rfl) (L:=Go.Proofs.Own.bm 22 262143) (by kernel_rfl) (f':=4) rfl (fun _ _ _ _ h=>h) (fun w o h=>ST6.alloc h o) (.inl (by kernel_rfl)) ?_
      simp only [sF,sL]
      iterate 2 (refine aD _ (by rfl) (fun w'=>by go_simp;try with_reducible rfl) ?_;simp only [Act.put,sA])
      refine aE ?_
      refine aI 18 (by kernel_rfl) (L:=Go.Proofs.Own.bm 22 524287) (by kernel_rfl) ?_
      simp only [sL]
      have x3:=L8.out.c3;have x2:=L8.out.c2;have z3:=L8.out.fz 3 (by decide) (by decide);have z2:=L8.out.fz 2 (by decide) (by decide);go_wp2_with fail
      refine aF nofun ?_
      refine aB [19,20] (by kernel_rfl) (L:=Go.Proofs.Own.bm 22 2097151) (by kernel_rfl) (f':=1) rfl (fun _ _ _ _ h=>h) (fun w o h=>ST6.alloc h o) (.inl (by kernel_rfl)) ?_
      simp only [sF,sL]
      iterate 2 (refine aD _ (by rfl) (fun w'=>by go_simp;try with_reducible rfl) ?_;simp only [Act.put,sA])
      refine aE ?_
      refine aI 21 (by kernel_rfl) (L:=Go.Proofs.Own.bm 22 4194303) (by kernel_rfl) ?_
      simp only [sL]
      go_wp2_with fail
      refine aF nofun ?_
      refine aT (by kernel_rfl) ?_

      have L9a:Hid (bD (w8.setCell ⟨lb,3,none⟩ (.slice a7 n7 c7)) lb db mb tb (.slice ea en ec) (.slice a7 n7 c7) el' (removeD D' (aH f.f)).1 { L' with fs:=g1 :: r }):=hid (L8.out.mB (fs:=g1 :: r) O78.out (fun b hb=>by
       have h1:=N7.out b hb
       refine ⟨fun e=>?_,fun e=>?_,fun e=>?_⟩
       ·have:=L6.out.lt;omega
       ·have:=L6.out.dN.lt3 _ e;omega
       ·have:=L6.out.er.lt _ e;omega))
      have O9:cA (w8.setCell ⟨lb,3,none⟩ (.slice a7 n7 c7)) 38 3 (.slice a8 n8 c8) (aL (el'.drop f.m)):=O8.out.kept (Kept.setCell w8 ⟨lb,3,none⟩ _) (fun b hb e=>by
       have h1:=N8.out b hb
       have h2:b = lb:=e
       have:=L6.out.lt
       have:=I7.out.size
       omega)
      have hes:(el'.drop f.m).map (·.1) = L'.es.drop f.m:=by rw [List.map_drop,L6.out.es]
      obtain ⟨w9,hw9⟩:∃ w9,(w8.setCell ⟨lb,3,none⟩ (.slice a7 n7 c7)).setCell ⟨lb,2,none⟩ (.slice a8 n8 c8) = w9:=⟨_,rfl⟩
      have L9:Hid (bD w9 lb db mb tb (.slice a8 n8 c8) (.slice a7 n7 c7) (el'.drop f.m) (removeD D' (aH f.f)).1 ⟨L'.b,L'.es.drop f.m,g1 :: r,L'.safe⟩):=hid (by
       have h:=L9a.out.kV (ev':=.slice a8 n8 c8) (el':=el'.drop f.m) O9 (L9a.out.dat.sub fun p hp=>List.mem_of_mem_drop hp) (fun b hb=>by
        have h1:=N8.out b hb
        have h0:=I7.out.size
        refine ⟨fun e=>?_,fun e=>?_,fun e=>?_⟩
        ·have:=L6.out.lt;omega
        ·have:=L6.out.dN.lt3 _ e;omega
        ·have:=O7.out.lt _ e;omega)
       rw [hes,hw9] at h
       exact h)
      have S9:Hid (aS lb db mb tb w ev fv w9 (.slice a8 n8 c8) (.slice a7 n7 c7)):=hid (S6.out.trans ⟨by
       rw [<- hw9]
       exact ((Kept.aJ I8.out (S:=fun b=>b = lb) fun k h1 h2=>by omega).trans ((Kept.setCell w8 ⟨lb,3,none⟩ _).trans (Kept.setCell _ ⟨lb,2,none⟩ _))).mono fun k _ e=>.inl e,fun b hb=>.inr (Nat.le_trans I7.out.size (N8.out b hb)),fun b hb=>.inr (N7.out b hb)⟩)
      have F9:Hid (FB w9 fb f):=hid (by
       rw [<- hw9]
       exact (F8.out.kept (Kept.setCell w8 ⟨lb,3,none⟩ _) HFB.out).kept (Kept.setCell _ ⟨lb,2,none⟩ _) HFB.out)
      rw [hw9]
      obtain ⟨bm,hbm⟩:∃ bm:Nat,L'.b + f.m = bm:=⟨_,rfl⟩
      obtain ⟨sm,hsm⟩:∃ sm:Nat,L'.safe - f.m = sm:=⟨_,rfl⟩
      have HBM:=hid hbm
      have HSM:=hid hsm
      have ebm:(L'.b:Int) + (f.m:Int) = (bm:Int):=by omega
      have esm:(L'.safe:Int) - (f.m:Int) = (sm:Int):=by have:=HD.out.2.2.1;omega
      have hsl:L'.safe <= L'.es.length:=(HOK.out).safe
      have wm:IntKind.u64.wrap (f.m:Int) = (f.m:Int):=by rw [wrap_u64];have:=HFM.out;have:=HB59.out.2;omega
      have wbm:IntKind.u64.wrap (bm:Int) = (bm:Int):=by rw [wrap_u64];have:=HFM.out;have:=HB59.out;omega
      have wsm:IntKind.i64.wrap (sm:Int) = (sm:Int):=by simp only [IntKind.wrap_i64];have:=HB59.out;omega
      have wsm':wrap64 (sm:Int) = (sm:Int):=by unfold wrap64;have:=HB59.out;omega
      have x1:w9.cell? ⟨lb,1,none⟩ = some (.int .u64 (L'.b:Int)):=L9.out.c1
      have x4:w9.cell? ⟨lb,4,none⟩ = some (.int .i64 (L'.safe:Int)):=L9.out.c4
      have F94:Hid (FB4 w9 fb f lb L'.safe):=hid ⟨F9.out,x4⟩
      have z1:=L9.out.fz 1 (by decide) (by decide)
      have z4:=L9.out.fz 4 (by decide) (by decide)
      clear L9a O9 hes hw9 hbm hsm hsl x2 x3 z2 z3 hcut7' hcut8
      go_wp2_with fail
      refine aN [0,0,0,4,12,28,0,64,192,508,0,1024,3072,7168,0,16384,64512,16381,147453,409597,1048575,2097151,4194303] 918048 (fun w'=>FB4 w' fb f lb L'.safe) (by kernel_rfl) ?_
      refine aB [0,1,2,3,4,6,7,8,10,11,12,13,14,15,16] (by kernel_rfl) (L:=Go.Proofs.Own.bm 23 130527) (by kernel_rfl) (f':=8) rfl (fun _ _ _ _ h=>h) (fun w o h=>h.below ((Below.refl _ _).alloc (Nat.le_refl _) o)) (.inr (by first | exact F94.out | exact F94.out.below ((Below.refl _ _).drew))) ?_
      simp only [sF,sL]
      iterate 15 (first | (refine aQ _ (by rfl) (fun w' hs=>by obtain ⟨⟨y0,y1,y2⟩,y4⟩:=hs;go_simp;try with_reducible rfl) rfl ?_;simp only [Act.put,sA]) | (refine aD _ (by rfl) (fun w'=>by go_simp;try with_reducible rfl) ?_;simp only [Act.put,sA]))
      refine aE ?_
      refine aI 5 (by kernel_rfl) (L:=Go.Proofs.Own.bm 23 130559) (by kernel_rfl) ?_
      simp only [sL]
      go_wp2_with fail
      refine aF (fun _=>(by first | exact F94.out | exact F94.out.below ((Below.refl _ _).drew))) ?_
      refine aB [9,17,18] (by kernel_rfl) (L:=Go.Proofs.Own.bm 23 524287) (by kernel_rfl) (f':=4) rfl (fun _ _ _ _ h=>h) (fun w o h=>h.below ((Below.refl _ _).alloc (Nat.le_refl _) o)) (.inr (by first | exact F94.out | exact F94.out.below ((Below.refl _ _).drew))) ?_
      simp only [sF,sL]
      iterate 3 (refine aD _ (by rfl) (fun w'=>by go_simp;try with_reducible rfl) ?_;simp only [Act.put,sA])
      refine aE ?_
      refine aI 19 (by kernel_rfl) (L:=Go.Proofs.Own.bm 23 1048575) (by kernel_rfl) ?_
      simp only [sL]
      go_wp2_with fail
      refine aF (fun _=>(by first | exact F94.out.sD _ HFB.out | exact (F94.out.below ((Below.refl _ _).drew)).sD _ HFB.out)) ?_
      refine aB [20,21] (by kernel_rfl) (L:=Go.Proofs.Own.bm 23 4194303) (by kernel_rfl) (f':=1) rfl (fun _ _ _ _ h=>h) (fun w o h=>h.below ((Below.refl _ _).alloc (Nat.le_refl _) o)) (.inl (by kernel_rfl)) ?_
      simp only [sF,sL]
      iterate 2 (refine aD _ (by rfl) (fun w'=>by go_simp;try with_reducible rfl) ?_;simp only [Act.put,sA])
      refine aE ?_
      refine aI 22 (by kernel_rfl) (L:=Go.Proofs.Own.bm 23 8388607) (by kernel_rfl) ?_
      simp only [sL]
      go_wp2_with fail
      refine aF nofun ?_
      refine aT (by kernel_rfl) ?_
      have L10:=hid ((L9.out.sD bm).iE sm)
      have S10:Hid (aS lb db mb tb w ev fv ((w9.setCell ⟨lb,1,none⟩ (.int .u64 (bm:Nat))).setCell ⟨lb,4,none⟩ (.int .i64 (sm:Nat))) (.slice a8 n8 c8) (.slice a7 n7 c7)):=hid (S9.out.trans (aS.own ((Kept.setCell w9 ⟨lb,1,none⟩ _).trans (Kept.setCell _ ⟨lb,4,none⟩ _))))
      have HL10:Hid (aAA L' f (g1 :: r) = ⟨bm,L'.es.drop f.m,g1 :: r,sm⟩):=hid (by unfold aAA;rw [HBM.out,HSM.out])
      have HFE:Hid (L'.fs.length = (g1 :: r).length + 1):=hid (by rw [HFS.out];rfl)
      generalize hwz:World.drew _ = wz
      have BZ:Below ((w9.setCell ⟨lb,1,none⟩ (.int .u64 (bm:Nat))).setCell ⟨lb,4,none⟩ (.int .i64 (sm:Nat))).heap.size ((w9.setCell ⟨lb,1,none⟩ (.int .u64 (bm:Nat))).setCell ⟨lb,4,none⟩ (.int .i64 (sm:Nat))) wz:=by rw [<- hwz];exact (Below.refl _ _).drew
      have LZ:=hid (L10.out.below BZ)
      have SZ:=hid (S10.out.trans (aS.below BZ))
      clear hwz BZ x1 x4 z1 z4 ebm esm wm wbm wsm wsm'
      go_wp2_with fail
      go_roundw
      case rel =>
       refine ⟨(removeD D' (aH f.f)).1,aAA L' f (g1 :: r),_,_,_,(by rw [HL10.out];exact LZ.out),SZ.out,?_,HD.out.1,?_,?_⟩
       ·rw [<- HRF.out,aCn HFS.out HC.out HK0.out]
       ·have:=HD.out.2.1;have:=HS'.out;have:=HFE.out;show _ + ((g1 :: r).length:Int) + 10 <= _;omega
       ·have:=HF'.out;have:=HFE.out;show (g1 :: r).length <= 128;omega
      case measure =>
       rw [HL.out.nfs,LZ.out.nfs,HFE.out]
       exact Nat.lt_succ_self _
     ·have hkb:((k:Int) != 0) = true:=by simp;omega
      have HK0:Hid ((removeD D' (aH f.f)).2 ≠ 0):=hid (by rw [HK.out];exact hk0)
      clear hk0
      go_wp2_with fail
      go_ret
      have HE:dropF upto L.fs.length D L = ((removeD D' (aH f.f)).1,L',(removeD D' (aH f.f)).2):=by rw [<- HRF.out,aDQ HFS.out HC.out HK0.out]
      rw [HR.out,HE]
      exact ⟨by rw [HK.out];rfl,_,_,_,L6.out,S6.out.1,S6.out.2.1,S6.out.2.2⟩
    ·have hcz:decide (gf <= up + 1) = false:=decide_eq_false (by have:=HUP.out;omega)
     have HE:Hid (dropF upto L.fs.length D L = (D',L',0)):=hid (by rw [<- HRF.out,aDP hfs hc])
     clear h1 hn hfc hfs hgf hc
     go_wp2_with fail
     go_ret
     rw [HR.out,HE.out]
     exact ⟨rfl,_,_,_,HL.out,HS.out.1,HS.out.2.1,HS.out.2.2⟩
end Go.Proofs.YtjdglpcnkiioeaaGreat
