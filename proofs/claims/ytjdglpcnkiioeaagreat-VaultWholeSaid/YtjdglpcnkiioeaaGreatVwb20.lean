/- Several texts in one: Idx, Save2, Sav for vwhole_law_holds. No conditions but those stated. -/
import Derived.Laws.EntriesVeiled
import Derived.Test.YtjdglpcnkiioeaaGreatVwb18
set_option maxHeartbeats 16000000
namespace Go.Proofs.YtjdglpcnkiioeaaGreat
open Go.RowKit Go.Maps Go.Proofs.Own

theorem Tryz.aJr:(Tryz.prog.info? 63).map (fun i=>(i.zero,i.size)) = some (some .nilFunc,1):=by kernel_rfl
theorem aA4 (a b c d v:Value) (i:Nat) (w:World) (h:#[a,b,c,d][i]? = some v):(Instr.index 266 (.agg #[a,b,c,d]) (.int .i64 (i:Int))).run Tryz.prog w = .ok v w:=by
  have hi:i < 4:=by have:=(Array.getElem?_eq_some_iff.1 h).1;simpa using this
  have h4:(i:Int) < 4:=by omega
  obtain ⟨i0,h1,h2⟩:=Option.map_eq_some_iff.1 Tryz.aJr
  simp only [Prod.mk.injEq] at h2
  have hu:=Tryz.underlying63
  simp [Instr.index,asIntOf,run_underlying Tryz.underlying266,hi,sizeOf,typeInfo,h1,h2.2,part,isAgg,run_underlying hu,Result.andThen,go_sem]
  exact (Array.getElem?_eq_some_iff.1 h).2
theorem iW.iU {w:World} {sb db:Nat} {i t:Int} {mv dv:Value} (h:iW w sb db i t mv dv) (i' t':Int) (mv' dv':Value) (hm8:∀ x,mv' ≠ .int .u8 x:=by intro x e;cases e) (hd8:∀ x,dv' ≠ .int .u8 x:=by intro x e;cases e) :
    iW ((((w.setCell ⟨sb,1,none⟩ (.int .u64 i')).setCell ⟨sb,2,none⟩ (.int .u64 t')).setCell ⟨sb,3,none⟩ mv').setCell ⟨sb,4,none⟩ dv') sb db i' t' mv' dv':=by
  refine ⟨?_,?_,?_,?_,?_,?_,?_,?_,?_,?_⟩
  . rw [World.cell?_setCell_other _ _ _ _ (by simp),World.cell?_setCell_other _ _ _ _ (by simp),World.cell?_setCell_other _ _ _ _ (by simp),World.cell?_setCell_other _ _ _ _ (by simp)];exact h.c0
  . rw [World.cell?_setCell_other _ _ _ _ (by simp),World.cell?_setCell_other _ _ _ _ (by simp),World.cell?_setCell_other _ _ _ _ (by simp)];exact World.cell?_setCell_same _ _ _ h.c1
  . rw [World.cell?_setCell_other _ _ _ _ (by simp),World.cell?_setCell_other _ _ _ _ (by simp)]
    exact World.cell?_setCell_same _ _ _ (by rw [World.cell?_setCell_other _ _ _ _ (by simp)];exact h.c2)
  . rw [World.cell?_setCell_other _ _ _ _ (by simp)]
    exact World.cell?_setCell_same _ _ _ (by rw [World.cell?_setCell_other _ _ _ _ (by simp),World.cell?_setCell_other _ _ _ _ (by simp)];exact h.c3)
  . exact World.cell?_setCell_same _ _ _ (by rw [World.cell?_setCell_other _ _ _ _ (by simp),World.cell?_setCell_other _ _ _ _ (by simp),World.cell?_setCell_other _ _ _ _ (by simp)];exact h.c4)
  . rw [World.frozen?_setCell,World.frozen?_setCell,World.frozen?_setCell,World.frozen?_setCell];exact h.f1
  . rw [World.frozen?_setCell,World.frozen?_setCell,World.frozen?_setCell,World.frozen?_setCell];exact h.f2
  . rw [World.frozen?_setCell,World.frozen?_setCell,World.frozen?_setCell,World.frozen?_setCell];exact h.f3
  . rw [World.frozen?_setCell,World.frozen?_setCell,World.frozen?_setCell,World.frozen?_setCell];exact h.f4
  . refine (((h.n8.set ⟨sb,1,none⟩ h.c1 (by intro x e;cases e)).set ⟨sb,2,none⟩ (u:=.int .u64 t) ?_ (by intro x e;cases e)).set ⟨sb,3,none⟩ (u:=mv) ?_ hm8).set ⟨sb,4,none⟩ (u:=dv) ?_ hd8
    . rw [World.cell?_setCell_other _ _ _ _ (by simp)];exact h.c2
    . rw [World.cell?_setCell_other _ _ _ _ (by simp),World.cell?_setCell_other _ _ _ _ (by simp)];exact h.c3
    . rw [World.cell?_setCell_other _ _ _ _ (by simp),World.cell?_setCell_other _ _ _ _ (by simp),World.cell?_setCell_other _ _ _ _ (by simp)];exact h.c4
theorem Kept.aHM (w:World) (sb:Nat) (a b c d:Value):Kept w ((((w.setCell ⟨sb,1,none⟩ a).setCell ⟨sb,2,none⟩ b).setCell ⟨sb,3,none⟩ c).setCell ⟨sb,4,none⟩ d) (fun k=>k = sb) :=
  (((Kept.setCell w ⟨sb,1,none⟩ _).trans (Kept.setCell _ ⟨sb,2,none⟩ _)).trans (Kept.setCell _ ⟨sb,3,none⟩ _)).trans (Kept.setCell _ ⟨sb,4,none⟩ _)
theorem aG.aHM {w:World} {sb db db' mb tb:Nat} {D:aA} {i t:Int} {mv dv:Value} (h:aG w db' mb tb D) (s:iW w sb db i t mv dv) (hn:¬ bA db' mb tb sb) (hm:∀ x,mv ≠ .int .u8 x) (hd:∀ x,dv ≠ .int .u8 x) (a b c d:Value) :
    aG ((((w.setCell ⟨sb,1,none⟩ a).setCell ⟨sb,2,none⟩ b).setCell ⟨sb,3,none⟩ c).setCell ⟨sb,4,none⟩ d) db' mb tb D:=by
  refine aG.setOther (aG.setOther (aG.setOther (aG.setOther h _ hn ?_) _ hn ?_) _ hn ?_) _ hn ?_
  . intro x e;rw [s.c1] at e;cases e
  . intro x e;rw [World.cell?_setCell_other _ _ _ _ (by simp),s.c2] at e;cases e
  . intro x e;rw [World.cell?_setCell_other _ _ _ _ (by simp),World.cell?_setCell_other _ _ _ _ (by simp),s.c3] at e;exact hm x (Option.some.inj e)
  . intro x e;rw [World.cell?_setCell_other _ _ _ _ (by simp),World.cell?_setCell_other _ _ _ _ (by simp),World.cell?_setCell_other _ _ _ _ (by simp),s.c4] at e;exact hd x (Option.some.inj e)
end Go.Proofs.YtjdglpcnkiioeaaGreat
namespace Go.Proofs.YtjdglpcnkiioeaaGreat
open Go.Lib (hid)
open Go.RowKit Go.Maps Go.Proofs.Own

set_option maxRecDepth 20000 in
theorem aGb (sb db mb tb:Nat) (s x:bI) (v:Value) (w:World) (h:fM w sb db mb tb s) (hx:cU w v x) (hok:x.ok) (hle:x.i <= s.i) :
    Calls Tryz.prog 136 #[.pointer (some ⟨sb,0,none⟩),v] w fun e w'=>e = .returned (.int .i64 34) /\ Below w.heap.size w w':=by
  have H:=hid h
  have HX:=hid hx
  have HOK:=hid hok
  obtain ⟨mv,dv,rfl,hm,hd⟩:=hx
  obtain ⟨a,c,rfl,_⟩:=hd.shape
  obtain ⟨am,cm,rfl,_⟩:=hm.shape
  have hsl:=h.lt
  clear h hm hd hok
  go_enter Tryz.func136,Tryz.ntmps136
  go_wp2_with fail
  generalize hw2:World.alloc (World.alloc w _) _ = w2
  have B2:Hid (Below w.heap.size w w2):=hid (by subst hw2;exact ((Below.refl _ _).alloc (Nat.le_refl _) _).alloc (by simp) _)
  have c2:w2.cell? ⟨w.heap.size,0,none⟩ = some (.pointer (some ⟨sb,0,none⟩)):=by subst hw2;go_cell
  have S2:Hid (bZ w2 (w.heap.size + 1) x.i x.t (.slice am x.ms.length cm) (.slice a x.d.length c)):=hid (by
    subst hw2
    have k:=bZ.box (w.alloc (.cells #[.pointer (some ⟨sb,0,none⟩)] 107)) x.i x.t (.slice am x.ms.length cm) (.slice a x.d.length c)
    simpa using k)
  have l2:w.heap.size + 1 < w2.heap.size:=S2.out.lt
  clear hw2
  refine (aCE sb db mb tb s w2 (H.out.below B2.out)).mono ?_
  rintro e w2' ⟨rfl,rfl⟩
  obtain ⟨r0,r1,r2,r3,_,_,_,_⟩:=S2.out
  go_wp2_with fail
  refine (yI _ x w2 (HX.out.below B2.out) HOK.out).mono ?_
  rintro e w3 ⟨bv,rfl,hB3,hb3,ho3⟩
  obtain ⟨ab,cb,rfl,_⟩:=hB3.shape
  have HO3:=hid ho3
  have HB3:=hid hB3
  have B3:=hid hb3
  have c3:=Below.at hb3 c2 (by show w.heap.size < w2.heap.size;omega)
  have r3':=Below.at hb3 r0 l2
  have l3:=hb3.size
  have H3:Hid (fM w3 sb db mb tb s):=hid ((H.out.below B2.out).below hb3)
  clear hB3 hb3 ho3 r0 r1 r2 r3 c2
  generalize (frP 4 (eB x)).length = nb
  go_wp2_with fail
  have S3:=H3.out
  obtain ⟨mv3,dv3,hS3,_⟩:=S3
  have y0:=iF c3 (.cells #[.slice ab nb cb] 36)
  have y1:=iF r3' (.cells #[.slice ab nb cb] 36)
  have y2:=iF hS3.c1 (.cells #[.slice ab nb cb] 36)
  have B4:Hid (Below w.heap.size w (w3.alloc (.cells #[.slice ab nb cb] 36))):=hid ((B2.out.trans (B3.out.mono B2.out.size)).alloc (by have:=B2.out.size;omega) _)
  clear hS3 c3 r3'
  generalize World.alloc w3 _ = w4 at *
  go_quiet (fail)
  have IQ:Hid (Below w.heap.size w (w4.drewN nq)):=hid (pB B4.out nq)
  generalize w4.drewN nq = wq at IQ ⊢
  go_wp2_with fail
  go_ret
  exact ⟨rfl,IQ.out⟩


def yH (D:aA) (b:List Nat):aA × Nat :=
  if (bU D).2 ≠ 0 then bU D else if (aW (bU D).1 bM b).2 ≠ 0 then aW (bU D).1 bM b
  else if (syncD (aW (bU D).1 bM b).1 bM).2 ≠ 0 then syncD (aW (bU D).1 bM b).1 bM
  else gF (syncD (aW (bU D).1 bM b).1 bM).1 bM eU
def cJ (D:aA) (s x:bI):aA × Nat:=if ¬ x.ok then (D,2) else if x.i <= s.i then (D,34) else yH D (frP 4 (eB x))
theorem aDP {D:aA} (b:List Nat) (h:aS D) (hs:D.steps + 4 <= 1000000000):aS (yH D b).1 /\ (yH D b).1.steps <= D.steps + 4:=by
  have h1:=nN h (by omega)
  have h2:=h1.1.append bM b (by omega)
  have h3:=h2.1.sync bM (by omega)
  have h4:=h3.1.move bM eU (by omega)
  unfold yH
  split
  . exact ⟨h1.1,by omega⟩
  . split
    . exact ⟨h2.1,by omega⟩
    . split
      . exact ⟨h3.1,by omega⟩
      . exact ⟨h4.1,by omega⟩
theorem oD {D:aA} (s x:bI) (h:aS D) (hs:D.steps + 4 <= 1000000000):aS (cJ D s x).1 /\ (cJ D s x).1.steps <= D.steps + 4:=by
  unfold cJ
  split
  . exact ⟨h,by simp only;omega⟩
  . split
    . exact ⟨h,by simp only;omega⟩
    . exact aDP _ h hs
set_option maxRecDepth 20000 in
theorem aF9 (sb db mb tb:Nat) (s x:bI) (v:Value) (w:World) (h:fM w sb db mb tb s) (hx:cU w v x) (hok:¬ x.ok) :
    Calls Tryz.prog 136 #[.pointer (some ⟨sb,0,none⟩),v] w fun e w'=>e = .returned (.int .i64 2) /\ Below w.heap.size w w':=by
  have H:=hid h
  have HX:=hid hx
  have HOK:=hid hok
  obtain ⟨mv,dv,rfl,hm,hd⟩:=hx
  obtain ⟨a,c,rfl,_⟩:=hd.shape
  obtain ⟨am,cm,rfl,_⟩:=hm.shape
  have hsl:=h.lt
  clear h hm hd hok
  go_enter Tryz.func136,Tryz.ntmps136
  go_wp2_with fail
  generalize hw2:World.alloc (World.alloc w _) _ = w2
  have B2:Hid (Below w.heap.size w w2):=hid (by subst hw2;exact ((Below.refl _ _).alloc (Nat.le_refl _) _).alloc (by simp) _)
  have c2:w2.cell? ⟨w.heap.size,0,none⟩ = some (.pointer (some ⟨sb,0,none⟩)):=by subst hw2;go_cell
  have S2:Hid (bZ w2 (w.heap.size + 1) x.i x.t (.slice am x.ms.length cm) (.slice a x.d.length c)):=hid (by
    subst hw2
    have k:=bZ.box (w.alloc (.cells #[.pointer (some ⟨sb,0,none⟩)] 107)) x.i x.t (.slice am x.ms.length cm) (.slice a x.d.length c)
    simpa using k)
  have l2:w.heap.size + 1 < w2.heap.size:=S2.out.lt
  clear hw2
  refine (aCE sb db mb tb s w2 (H.out.below B2.out)).mono ?_
  rintro e w2' ⟨rfl,rfl⟩
  obtain ⟨r0,r1,r2,r3,_,_,_,_⟩:=S2.out
  go_wp2_with fail
  refine (aF1 _ x w2 (HX.out.below B2.out) HOK.out).mono ?_
  rintro e w3 ⟨rfl,hb3⟩
  have B3:Hid (Below w.heap.size w w3):=hid (B2.out.trans (hb3.mono B2.out.size))
  have c3:=Below.at hb3 c2 (by show w.heap.size < w2.heap.size;omega)
  have r3':=Below.at hb3 r0 l2
  have l3:=hb3.size
  clear hb3 r0 r1 r2 r3 c2
  go_wp2_with fail
  go_ret
  exact ⟨rfl,B3.out.alloc (by have:=B3.out.size;omega) _⟩

end Go.Proofs.YtjdglpcnkiioeaaGreat
