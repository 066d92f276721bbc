/- For vltopens_law_holds. -/
import Derived.Laws.EntriesVeiled
import Derived.Test.YtjdglpcnkiioeaaGreatVob25
set_option maxHeartbeats 16000000
set_option maxRecDepth 100000
namespace Go.Proofs.YtjdglpcnkiioeaaGreat
open Go.RowKit Go.Maps Go.Proofs.Own

theorem Tryz.aJ5:(Tryz.prog.info? 63).map (fun i=>(i.zero,i.size))=some (some .nilFunc,1):=by kernel_rfl
theorem aBf (a b c d v:Value)(i:Nat)(w:World)(h:#[a,b,c,d][i]? = some v):(Instr.index 266 (.agg #[a,b,c,d]) (.int .i64 (i:Int))).run Tryz.prog w = .ok v w:=by
 have hi:i<4:=by have:=(Array.getElem?_eq_some_iff.1 h).1;simpa using this
 have h4:(i:Int)<4:=by omega
 obtain⟨i0,h1,h2⟩:=Option.map_eq_some_iff.1 Tryz.aJ5;simp only[Prod.mk.injEq]at h2;have hu:=Tryz.underlying63;simp[Instr.index,asIntOf,run_underlying Tryz.underlying266,hi,sizeOf,typeInfo,h1,h2.2,part,isAgg,run_underlying hu,Result.andThen,go_sem];exact(Array.getElem?_eq_some_iff.1 h).2
theorem gU.eN {w:World}{sb db:Nat}{i t:Int}{mv dv:Value}(h:gU w sb db i t mv dv)(i' t':Int)(mv' dv':Value)(hm8:∀x,mv' ≠ .int .u8 x:=by intro x e;cases e)(hd8:∀x,dv' ≠ .int .u8 x:=by intro x e;cases e) :
  gU ((((w.setCell ⟨sb,1,none⟩ (.int .u64 i')).setCell ⟨sb,2,none⟩ (.int .u64 t')).setCell ⟨sb,3,none⟩ mv').setCell ⟨sb,4,none⟩ dv') sb db i' t' mv' dv':=by
 refine⟨?_,?_,?_,?_,?_,?_,?_,?_,?_,?_⟩
 ·rw[cso (by simp),cso (by simp),cso (by simp),cso (by simp)];exact h.c0
 ·rw[cso (by simp),cso (by simp),cso (by simp)];exact css h.c1
 ·rw[cso (by simp),cso (by simp)];exact css (by rw[cso (by simp)];exact h.c2)
 ·rw[cso (by simp)];exact css (by rw[cso (by simp),cso (by simp)];exact h.c3)
 ·exact css (by rw[cso (by simp),cso (by simp),cso (by simp)];exact h.c4)
 ·rw[World.frozen?_setCell,World.frozen?_setCell,World.frozen?_setCell,World.frozen?_setCell];exact h.f1
 ·rw[World.frozen?_setCell,World.frozen?_setCell,World.frozen?_setCell,World.frozen?_setCell];exact h.f2
 ·rw[World.frozen?_setCell,World.frozen?_setCell,World.frozen?_setCell,World.frozen?_setCell];exact h.f3
 ·rw[World.frozen?_setCell,World.frozen?_setCell,World.frozen?_setCell,World.frozen?_setCell];exact h.f4
 ·refine(((h.n8.set ⟨sb,1,none⟩ h.c1 (by intro x e;cases e)).set ⟨sb,2,none⟩ (u:=.int .u64 t) ?_ (by intro x e;cases e)).set ⟨sb,3,none⟩ (u:=mv) ?_ hm8).set ⟨sb,4,none⟩ (u:=dv) ?_ hd8
  ·rw[cso (by simp)];exact h.c2
  ·rw[cso (by simp),cso (by simp)];exact h.c3
  ·rw[cso (by simp),cso (by simp),cso (by simp)];exact h.c4
theorem Kept.aD6 (w:World)(sb:Nat)(a b c d:Value):Kept w ((((w.setCell ⟨sb,1,none⟩ a).setCell ⟨sb,2,none⟩ b).setCell ⟨sb,3,none⟩ c).setCell ⟨sb,4,none⟩ d) (fun k=>k=sb) :=
 (((Kept.setCell w ⟨sb,1,none⟩ _).trans (Kept.setCell _ ⟨sb,2,none⟩ _)).trans (Kept.setCell _ ⟨sb,3,none⟩ _)).trans (Kept.setCell _ ⟨sb,4,none⟩ _)
theorem aG.aD6 {w:World}{sb db db' mb tb:Nat}{D:aA}{i t:Int}{mv dv:Value}(h:aG w db' mb tb D)(s:gU w sb db i t mv dv)(hn:¬aZ db' mb tb sb)(hm:∀x,mv ≠ .int .u8 x)(hd:∀x,dv ≠ .int .u8 x)(a b c d:Value) :
  aG ((((w.setCell ⟨sb,1,none⟩ a).setCell ⟨sb,2,none⟩ b).setCell ⟨sb,3,none⟩ c).setCell ⟨sb,4,none⟩ d) db' mb tb D:=by
 refine aG.setOther (aG.setOther (aG.setOther (aG.setOther h _ hn ?_) _ hn ?_) _ hn ?_) _ hn ?_
 ·intro x e;rw[s.c1]at e;cases e
 ·intro x e;rw[cso (by simp),s.c2]at e;cases e
 ·intro x e;rw[cso (by simp),cso (by simp),s.c3]at e;exact hm x (Option.some.inj e)
 ·intro x e;rw[cso (by simp),cso (by simp),cso (by simp),s.c4]at e;exact hd x (Option.some.inj e)
end Go.Proofs.YtjdglpcnkiioeaaGreat
namespace Go.Proofs.YtjdglpcnkiioeaaGreat
open Go.Lib (hid)
open Go.RowKit Go.Maps Go.Proofs.Own

theorem aGj (sb db mb tb:Nat)(s x:bM)(v:Value)(w:World)(h:fJ w sb db mb tb s)(hx:cL w v x)(hok:x.ok)(hle:x.i<=s.i) :
  Calls Tryz.prog 136 #[.pointer (some ⟨sb,0,none⟩),v] w fun e w'=>e = .returned (.int .i64 34)/\Below w.heap.size w w':=by
 have H:=hid h;have HX:=hid hx;have HOK:=hid hok;obtain⟨mv,dv,rfl,hm,hd⟩:=hx;obtain⟨a,c,rfl,_⟩:=hd.shape;obtain⟨am,cm,rfl,_⟩:=hm.shape;have hsl:=h.lt;clear h hm hd hok;go_enter Tryz.func136,Tryz.ntmps136;go_wp2_with fail;generalize hw2:World.alloc (World.alloc w _) _=w2;have B2:Hid (Below w.heap.size w w2):=hid (by subst hw2;exact((Below.refl _ _).alloc (Nat.le_refl _) _).alloc (by simp) _);have c2:w2.cell? ⟨w.heap.size,0,none⟩=some (.pointer (some ⟨sb,0,none⟩)):=by subst hw2;go_cell
 have S2:Hid (bR w2 (w.heap.size+1) x.i x.t (.slice am x.ms.length cm) (.slice a x.d.length c)):=hid (by
  subst hw2;have k:=bR.box (w.alloc (.cells #[.pointer (some ⟨sb,0,none⟩)] 107)) x.i x.t (.slice am x.ms.length cm) (.slice a x.d.length c)
  simpa using k)
 have l2:w.heap.size+1<w2.heap.size:=S2.out.lt;clear hw2;refine(aCU sb db mb tb s w2 (H.out.below B2.out)).mono ?_;rintro e w2' ⟨rfl,rfl⟩;obtain⟨r0,r1,r2,r3,_,_,_,_⟩:=S2.out;go_wp2_with fail;refine(yI _ x w2 (HX.out.below B2.out) HOK.out).mono ?_;rintro e w3 ⟨bv,rfl,hB3,hb3,ho3⟩;obtain⟨ab,cb,rfl,_⟩:=hB3.shape;have HO3:=hid ho3;have HB3:=hid hB3;have B3:=hid hb3;have c3:=Below.at hb3 c2 (by show w.heap.size<w2.heap.size;omega);have r3':=Below.at hb3 r0 l2;have l3:=hb3.size;have H3:Hid (fJ w3 sb db mb tb s):=hid ((H.out.below B2.out).below hb3);clear hB3 hb3 ho3 r0 r1 r2 r3 c2;generalize (frP 4 (iN x)).length=nb;go_wp2_with fail;have S3:=H3.out;obtain⟨mv3,dv3,hS3,_⟩:=S3;have y0:=iH c3 (.cells #[.slice ab nb cb] 36);have y1:=iH r3' (.cells #[.slice ab nb cb] 36);have y2:=iH hS3.c1 (.cells #[.slice ab nb cb] 36);have B4:Hid (Below w.heap.size w (w3.alloc (.cells #[.slice ab nb cb] 36))):=hid ((B2.out.trans (B3.out.mono B2.out.size)).alloc (by have:=B2.out.size;omega) _);clear hS3 c3 r3';generalize World.alloc w3 _=w4 at *
 go_quiet (fail)
 have IQ:Hid (Below w.heap.size w (w4.drewN nq)):=hid (lP B4.out nq);generalize w4.drewN nq=wq at IQ ⊢;go_wp2_with fail;go_ret;exact⟨rfl,IQ.out⟩


def yG (D:aA)(b:List Nat):aA × Nat :=
 if (bD D).2≠0 then bD D else if (aV (bD D).1 bV b).2≠0 then aV (bD D).1 bV b
 else if (syncD (aV (bD D).1 bV b).1 bV).2≠0 then syncD (aV (bD D).1 bV b).1 bV
 else kC (syncD (aV (bD D).1 bV b).1 bV).1 bV eY
def eC (D:aA)(s x:bM):aA × Nat:=if ¬x.ok then (D,2) else if x.i<=s.i then (D,34) else yG D (frP 4 (iN x))
theorem aD4 {D:aA}(b:List Nat)(h:aY D)(hs:D.steps+4<=1000000000):aY (yG D b).1/\(yG D b).1.steps<=D.steps+4:=by
 have h1:=kZ h (by omega);have h2:=h1.1.append bV b (by omega);have h3:=h2.1.sync bV (by omega);have h4:=h3.1.move bV eY (by omega);unfold yG;split
 ·exact⟨h1.1,by omega⟩
 ·split
  ·exact⟨h2.1,by omega⟩
  ·split
   ·exact⟨h3.1,by omega⟩
   ·exact⟨h4.1,by omega⟩
theorem yH {D:aA}(s x:bM)(h:aY D)(hs:D.steps+4<=1000000000):aY (eC D s x).1/\(eC D s x).1.steps<=D.steps+4:=by
 unfold eC;split
 ·exact⟨h,by simp only;omega⟩
 ·split
  ·exact⟨h,by simp only;omega⟩
  ·exact aD4 _ h hs
theorem aGh (sb db mb tb:Nat)(s x:bM)(v:Value)(w:World)(h:fJ w sb db mb tb s)(hx:cL w v x)(hok:¬x.ok) :
  Calls Tryz.prog 136 #[.pointer (some ⟨sb,0,none⟩),v] w fun e w'=>e = .returned (.int .i64 2)/\Below w.heap.size w w':=by
 have H:=hid h;have HX:=hid hx;have HOK:=hid hok;obtain⟨mv,dv,rfl,hm,hd⟩:=hx;obtain⟨a,c,rfl,_⟩:=hd.shape;obtain⟨am,cm,rfl,_⟩:=hm.shape;have hsl:=h.lt;clear h hm hd hok;go_enter Tryz.func136,Tryz.ntmps136;go_wp2_with fail;generalize hw2:World.alloc (World.alloc w _) _=w2;have B2:Hid (Below w.heap.size w w2):=hid (by subst hw2;exact((Below.refl _ _).alloc (Nat.le_refl _) _).alloc (by simp) _);have c2:w2.cell? ⟨w.heap.size,0,none⟩=some (.pointer (some ⟨sb,0,none⟩)):=by subst hw2;go_cell
 have S2:Hid (bR w2 (w.heap.size+1) x.i x.t (.slice am x.ms.length cm) (.slice a x.d.length c)):=hid (by
  subst hw2;have k:=bR.box (w.alloc (.cells #[.pointer (some ⟨sb,0,none⟩)] 107)) x.i x.t (.slice am x.ms.length cm) (.slice a x.d.length c)
  simpa using k)
 have l2:w.heap.size+1<w2.heap.size:=S2.out.lt;clear hw2;refine(aCU sb db mb tb s w2 (H.out.below B2.out)).mono ?_;rintro e w2' ⟨rfl,rfl⟩;obtain⟨r0,r1,r2,r3,_,_,_,_⟩:=S2.out;go_wp2_with fail;refine(aGe _ x w2 (HX.out.below B2.out) HOK.out).mono ?_;rintro e w3 ⟨rfl,hb3⟩;have B3:Hid (Below w.heap.size w w3):=hid (B2.out.trans (hb3.mono B2.out.size));have c3:=Below.at hb3 c2 (by show w.heap.size<w2.heap.size;omega);have r3':=Below.at hb3 r0 l2;have l3:=hb3.size;clear hb3 r0 r1 r2 r3 c2;go_wp2_with fail;go_ret;exact⟨rfl,B3.out.alloc (by have:=B3.out.size;omega) _⟩

