/- Several texts in one: Vtl, Vtv for vwhole_law_holds. No conditions but those stated. -/
import Derived.Test.YtjdglpcnkiioeaaGreatVwb21
import Derived.Test.YtjdglpcnkiioeaaGreatVwb40
import Derived.Test.YtjdglpcnkiioeaaGreatVwb30
set_option maxHeartbeats 16000000
namespace Go.Proofs.YtjdglpcnkiioeaaGreat
open Go.Lib (hid)
open Go.RowKit Go.Maps Go.Proofs.Own Go.Shelf

def yV:bV × Value:=(xE,.slice none 0 0)
theorem cI.own {b:VB} {w w':World} {ev fv ev' fv':Value} (h:cI b w ev fv w' ev' fv') {k:Nat} (hk:iT b ev' fv' k):iT b ev fv k \/ w.heap.size <= k:=by
  rcases hk with hk | hk | hk | hk | hk | hk | hk
  . exact .inl (.inl hk)
  . exact .inl (.inr (.inl hk))
  . exact .inl (.inr (.inr (.inl hk)))
  . exact .inl (.inr (.inr (.inr (.inl hk))))
  . exact .inl (.inr (.inr (.inr (.inr (.inl hk)))))
  . exact (h.2.1 k hk).imp (fun e=>.inr (.inr (.inr (.inr (.inr (.inl e)))))) id
  . exact (h.2.2 k hk).imp (fun e=>.inr (.inr (.inr (.inr (.inr (.inr e)))))) id
structure TX (w0 cw:World) (b:VB) (xb:Nat) (D:aA) (V:cC):Prop where
  vlt:∃ ev fv el,aX cw b ev fv el D V /\ (∀ k,iT b ev fv k -> w0.heap.size <= k) /\ ¬ iT b ev fv xb
  box:EC cw xb 1 1 (.slice none 0 0)
  bel:Below w0.heap.size w0 cw
theorem TX.below {w0 cw cw':World} {b:VB} {xb:Nat} {D:aA} {V:cC} (h:TX w0 cw b xb D V) (hb:Below cw.heap.size cw cw'):TX w0 cw' b xb D V:=by
  obtain ⟨ev,fv,el,h1,h2⟩:=h.vlt
  exact ⟨⟨ev,fv,el,h1.below hb,h2⟩,h.box.below hb,h.bel.trans (hb.mono h.bel.size)⟩
theorem TX.step {w0 cw cw':World} {b:VB} {xb:Nat} {D D':aA} {V V':cC} {ev fv ev' fv':Value} {el':bF} (h:TX w0 cw b xb D V) (hlog:(∀ k,iT b ev fv k -> w0.heap.size <= k) /\ ¬ iT b ev fv xb) (hv:aX cw' b ev' fv' el' D' V') (hs:cI b cw ev fv cw' ev' fv'):TX w0 cw' b xb D' V':=by
  refine ⟨⟨ev',fv',el',hv,fun k hk=>?_,fun hk=>?_⟩,h.box.kept hs.1 hlog.2,h.bel.trans (hs.1.below h.bel.size fun k hk=>hlog.1 k hk)⟩
  . rcases hs.own hk with e | e
    . exact hlog.1 k e
    . have:=h.bel.size;omega
  . rcases hs.own hk with e | e
    . exact hlog.2 e
    . have:=h.box.lt;omega
theorem aJW (n:Nat):(List.replicate n yV).map (·.1) = List.replicate n xE:=by rw [List.map_replicate];rfl
theorem aGj {w0 cw:World} {b:VB} {xb n:Nat} {D:aA} {V:cC} (h:TX w0 cw b xb D V) {o:Obj} (hs:dN (cw.alloc o) 3 (.slice (some ⟨cw.heap.size,0,none⟩) n n) (aU (List.replicate n yV))) (hn:n <= 100) (hc:jG D V.L) (hst:D.steps + 200 <= 1000000000) (hb:V.br = false) :
    Calls Tryz.prog 42 #[.pointer (some ⟨b.vb,0,none⟩),.slice (some ⟨cw.heap.size,0,none⟩) n n] (cw.alloc o) fun e w'=>e = .returned (.int .i64 (dV D V (List.replicate n xE)).2.2) /\ TX w0 w' b xb (dV D V (List.replicate n xE)).1 (dV D V (List.replicate n xE)).2.1:=by
  have hbel:Below cw.heap.size cw (cw.alloc o):=(Below.refl _ _).alloc (Nat.le_refl _) _
  have h':=h.below hbel
  obtain ⟨ev,fv,el,h1,h2,h3⟩:=h.vlt
  have hf:Few (List.replicate n yV):=⟨by rw [List.length_replicate];exact hn,fun p hp=>by
    obtain ⟨_,rfl⟩:=List.mem_replicate.1 hp
    exact ⟨by decide,by decide,by decide⟩⟩
  have hda:cG (cw.alloc o) (jH b.lb b.db b.mb b.tb ev fv) (List.replicate n yV):=fun p hp=>by
    obtain ⟨_,rfl⟩:=List.mem_replicate.1 hp
    exact ⟨Bytes.nil _,⟨by decide,by decide,by decide,by decide⟩,nofun⟩
  have hm:qO (cw.alloc o) (jH b.lb b.db b.mb b.tb ev fv) (.slice (some ⟨cw.heap.size,0,none⟩) n n) (List.replicate n yV):=⟨hs,hda.toN,.inr fun k hk e=>by
    obtain rfl:cw.heap.size = k:=Option.some.inj hk
    have:=h1.log.lN e
    omega⟩
  refine (yZ (h1.below hbel) hc hst hm hf hb).mono ?_
  rintro E w' ⟨rfl,ev',fv',el',h5,h6⟩
  rw [aJW] at h5 ⊢
  exact ⟨rfl,h'.step ⟨h2,h3⟩ h5 h6⟩
theorem aIR {w0 cw cw':World} {b:VB} {xb:Nat} {D:aA} {V:cC} {v:Value} (h:TX w0 cw b xb D V) (hbel:Below cw.heap.size cw cw') (hv:aEr cw' cw.heap.size v (jK 2)) (hg:aS D) (hst:D.steps + 300 <= 1000000000) (hl:V.L.last <= H59) (hn:V.L.es.length <= 2147483648) (hb:V.br = false)
    (he:(cJ D V.s (jK 2)).2 = 0) (hc:jG (cJ D V.s (jK 2)).1 V.L) :
    Calls Tryz.prog 81 #[.pointer (some ⟨b.vb,0,none⟩),v] cw' fun e w'=>e = .returned (.int .i64 (gM D V (jK 2)).2.2) /\ TX w0 w' b xb (gM D V (jK 2)).1 (gM D V (jK 2)).2.1:=by
  have h':=h.below hbel
  obtain ⟨ev,fv,el,h1,h2,h3⟩:=h.vlt
  obtain ⟨mv,dv,rfl,hm,hd,q1,q2⟩:=hv
  obtain ⟨am,cm,rfl,_⟩:=hm.shape
  obtain ⟨ad,cd,rfl,_⟩:=hd.shape
  have WP:=zB (h1.below hbel) hg hst hl hn 2 1 [0] [97] am ad ([0]:List Int).length cm ([97]:List Nat).length cd (by decide)
    (fun w' hk=>⟨_,_,rfl,hm.kept hk (fun k hk e=>by have:=q1 k hk;have:=h1.lN e;omega),hd.kept hk (fun k hk e=>by have:=q2 k hk;have:=h1.lN e;omega)⟩) hb he hc (by decide)
  refine WP.mono ?_
  rintro E w' ⟨rfl,ev',fv',el',h5,h6⟩
  exact ⟨rfl,h'.step ⟨h2,h3⟩ h5 h6⟩
theorem aJJ (w:World):dN (w.alloc (.cells #[.int .u64 1,.int .i64 1,.slice none 0 0,.int .u64 1,.int .i64 1,.slice none 0 0,.int .u64 1,.int .i64 1,.slice none 0 0] 38)) 3 (.slice (some ⟨w.heap.size,0,none⟩) 3 3) (aU (List.replicate 3 yV)):=by
  refine ⟨_,_,rfl,Nat.le_refl _,fun j hj=>?_⟩
  have hj':j < 3:=hj
  refine ⟨w.heap.size,0,rfl,by simp,fun i u hu=>?_⟩
  match j,hj' with
  | 0,_ =>
    have hu':[Value.int .u64 1,.int .i64 1,.slice none 0 0][i]? = some u:=hu
    match i,hu' with
    | 0, hu' => obtain rfl : Value.int .u64 1 = u := by simpa using hu'
                go_cell
    | 1, hu' => obtain rfl : Value.int .i64 1 = u := by simpa using hu'
                go_cell
    | 2, hu' => obtain rfl : Value.slice none 0 0 = u := by simpa using hu'
                go_cell
    | i + 3,hu'=>simp at hu'
  | 1,_ =>
    have hu':[Value.int .u64 1,.int .i64 1,.slice none 0 0][i]? = some u:=hu
    match i,hu' with
    | 0, hu' => obtain rfl : Value.int .u64 1 = u := by simpa using hu'
                go_cell
    | 1, hu' => obtain rfl : Value.int .i64 1 = u := by simpa using hu'
                go_cell
    | 2, hu' => obtain rfl : Value.slice none 0 0 = u := by simpa using hu'
                go_cell
    | i + 3,hu'=>simp at hu'
  | 2,_ =>
    have hu':[Value.int .u64 1,.int .i64 1,.slice none 0 0][i]? = some u:=hu
    match i,hu' with
    | 0, hu' => obtain rfl : Value.int .u64 1 = u := by simpa using hu'
                go_cell
    | 1, hu' => obtain rfl : Value.int .i64 1 = u := by simpa using hu'
                go_cell
    | 2, hu' => obtain rfl : Value.slice none 0 0 = u := by simpa using hu'
                go_cell
    | i + 3,hu'=>simp at hu'
theorem aIQ {db mb tb:Nat} {D:aA} {w0 w w1:World} {b:VB} {ev fv:Value} {el:bF} {V:cC} (hb0:Below w0.heap.size w0 w) (ho3:∀ k,bA db mb tb k -> w0.heap.size <= k)
    (hv:aX w1 b ev fv el D V) (hk:Kept w w1 (bA db mb tb)) (ho:∀ k,iT b ev fv k -> bA db mb tb k \/ w.heap.size <= k) {w2:World} {t:TypeId} (h2:w2 = w1.alloc (.cells #[.int .u64 1,.int .i64 1,.slice none 0 0] t)):TX w0 w2 b w1.heap.size D V:=by
  subst h2
  have hbel:Below w1.heap.size w1 (w1.alloc (.cells #[.int .u64 1,.int .i64 1,.slice none 0 0] t)):=(Below.refl _ _).alloc (Nat.le_refl _) _
  have hb1:Below w0.heap.size w0 w1:=hb0.trans (hk.below hb0.size ho3)
  refine ⟨⟨ev,fv,el,hv.below hbel,fun k e=>?_,fun e=>by have:=hv.lN e;omega⟩,⟨by go_cell,by go_cell,by go_cell,by simp,by simp,by simp⟩,hb1.trans (hbel.mono hb1.size)⟩
  rcases ho k e with q | q
  . exact ho3 k q
  . have:=hb0.size;omega

theorem hY1:dV dX vX (List.replicate 3 xE) = rY1:=rfl
theorem hY2:gM rY1.1 rY1.2.1 (jK 2) = rY2:=rfl
set_option maxRecDepth 20000 in
theorem oI (w:World):Calls Tryz.prog 31 #[] w fun e w'=>e = .returned (.bool true) /\ Below w.heap.size w w':=by
  go_enter Tryz.func31,Tryz.ntmps31
  go_wp2_with fail
  refine (aJT 1000 w (by decide) (by decide)).mono ?_
  rintro e w1 ⟨db,mb,tb,rfl,hd1,hb1,h1,h2,h3⟩
  have D1:Hid (aG w1 db mb tb dX):=hid hd1
  have B1:=hid hb1
  have HO:Hid (∀ k,bA db mb tb k -> w.heap.size <= k):=hid (by rintro k (rfl | rfl | rfl) <;> assumption)
  clear hd1 hb1 h1 h2 h3
  go_wp2_with fail
  have WO:=zA D1.out aH7 (by decide) aBC.1 aBC.2.1 aBC.2.2.1 (by rw [aBC.2.2.2];exact aJG) (by decide) (by decide) rfl
  rw [aKt] at WO
  refine WO.mono ?_
  clear WO
  rintro e w2 ⟨b,ev,fv,el,rfl,e1,e2,e3,hv,hk2,ho⟩
  have HV:=hid hv
  have HK:=hid hk2
  have HOW:=hid ho
  have HE:Hid (b.db = db /\ b.mb = mb /\ b.tb = tb):=hid ⟨e1,e2,e3⟩
  clear hv hk2 ho e1 e2 e3
  go_wp2_with fail
  generalize hw3:World.alloc w2 _ = w3
  have TX3:Hid (TX w w3 b w2.heap.size dX vX):=hid (aIQ B1.out HO.out HV.out HK.out HOW.out hw3.symm)
  have HSZ:Hid (w3.heap.size = w2.heap.size + 1):=hid (by subst hw3;simp)
  clear hw3 HV HK HOW HE D1 B1 HO
  generalize w2.heap.size = xb at *
  obtain ⟨q0,q1,q2,_,_,_⟩:=TX3.out.box
  have ee:((rY1.2.2:Nat):Int) = 0:=by rw [y1.1];rfl
  go_wp2_with fail
  have WP:=aGj (n:=3) TX3.out (aJJ w3) (by decide) aI9 (by decide) rfl
  rw [hY1,ee,HSZ.out] at WP
  refine WP.mono ?_
  clear WP ee q0 q1 q2
  rintro e w4 ⟨rfl,h4⟩
  have TX4:=hid h4
  clear h4
  go_wp2_with fail
  refine (aFV 2 w4).mono ?_
  rintro e w5 ⟨v,rfl,hv5,hb5⟩
  have ee:((rY2.2.2:Nat):Int) = 0:=by rw [y2.1];rfl
  have WS:=aIR TX4.out hb5 hv5 y1c.1.eN (by have:=y1c.2;omega) (by rw [y1.2.2.2.1];decide) (by rw [y1.2.2.2.2.1];decide) y1.2.1 aH8.1 ⟨let ⟨P,h⟩:=y1c.1.inv;⟨P,h.aAy aKc⟩,aH8.2,((tP _ _ _).rising y1c.1.ris),(oD _ _ y1c.1.eN (by have:=y1c.2;omega)).1⟩
  rw [hY2,ee] at WS
  have HWS:=hid WS
  obtain ⟨mv,dv,rfl,_⟩:=hv5
  clear WS ee hb5
  go_wp2_with fail
  refine HWS.out.mono ?_
  rintro e w6 ⟨rfl,h6⟩
  have TX6:=hid h6
  clear h6 HWS
  obtain ⟨ev6,fv6,el6,hv6,_,_⟩:=TX6.out.vlt
  have HV6:=hid hv6
  clear hv6
  have WT:=aCQ HV6.out (by rw [y2.2.2.1];decide) (by rw [y2.2.2.2];decide) 2
  rw [y2s.2] at WT
  have HWT:=hid WT
  clear WT
  go_wp2_with fail
  refine HWT.out.mono ?_
  rintro e w7 ⟨rfl,hb7⟩
  have TX7:=hid (TX6.out.below hb7)
  have HV7:=hid (HV6.out.below hb7)
  clear hb7 HV6
  dsimp only
  have WB:=tL HV7.out
  have es:rY2.2.1.s.i = 2:=by rw [y2s.1];rfl
  rw [es] at WB
  have HWB:=hid WB
  clear WB es
  go_wp2_with fail
  refine HWB.out.mono ?_
  rintro e w8 ⟨rfl,hb8⟩
  have TX8:=hid (TX7.out.below hb8)
  have HV8:=hid (HV7.out.below hb8)
  clear hb8 HV7
  have WL:=aCP HV8.out (by rw [y2.2.2.1];decide)
  rw [y2.2.2.1] at WL
  rw [show (((3:Nat):Int)) = 3 from rfl] at WL
  have HWL:=hid WL
  clear WL
  go_wp2_with fail
  refine HWL.out.mono ?_
  rintro e w9 ⟨rfl,hb9⟩
  have TX9:=hid (TX8.out.below hb9)
  have HV9:=hid (HV8.out.below hb9)
  clear hb9 HV8
  have WR:=aD8 HV9.out
  rw [y2.2.1] at WR
  have HWR:=hid WR
  clear WR
  go_wp2_with fail
  refine HWR.out.mono ?_
  rintro e w10 ⟨rfl,rfl⟩
  go_wp2_with fail
  go_ret
  exact ⟨rfl,TX9.out.bel⟩
end Go.Proofs.YtjdglpcnkiioeaaGreat
namespace Go.Proofs.YtjdglpcnkiioeaaGreat
open Go.RowKit Go.Maps Go.Proofs.Own Go.Shelf

theorem hE.files {D D':aA} {V:cC} (h:hE D V) (hf:D'.files = D.files) (hd:D'.down = false) (hg:aS D'):hE D' V:=by
  obtain ⟨⟨⟨P,hi⟩,h2,h3,h4⟩,hbr,hsf,hvf,hlo,hhi,htm,hsaf⟩:=h
  exact ⟨⟨⟨P,hi.aAy (by unfold dK;rw [hf])⟩,hd,by rw [hf];exact h3,hg⟩,hbr,hsf.find (by rw [hf]),hvf.on (by rw [hf]),hlo,hhi,htm,hsaf⟩
theorem hE.arm {D:aA} {V:cC} (h:hE D V) {n:Int} (hn:n <= 9223372036854775807):hE (aAT D n).1 V /\ (aAT D n).1.steps = D.steps /\ (aAT D n).1.down = false:=by
  have hg:=h.cut.eN.arm n hn
  unfold aAT at hg ⊢
  have hd:=h.cut.up
  rw [if_neg (by rw [hd];decide)] at hg ⊢
  split at hg
  . rename_i e
    rw [if_pos e]
    exact ⟨h,rfl,hd⟩
  . rename_i e
    rw [if_neg e]
    exact ⟨h.files rfl hd hg,rfl,hd⟩
theorem hE.resize {D:aA} {V:cC} (h:hE D V) (n:Int):hE (kS D n).1 V /\ (kS D n).1.steps = D.steps /\ (kS D n).1.down = false:=by
  have hg:=h.cut.eN.resize n
  unfold kS at hg ⊢
  have hd:=h.cut.up
  rw [if_neg (by rw [hd];decide)] at hg ⊢
  split at hg
  . rename_i e
    rw [if_pos e]
    exact ⟨h,rfl,hd⟩
  . rename_i e
    rw [if_neg e]
    exact ⟨h.files rfl hd hg,rfl,hd⟩
theorem sC:∀ (L:List aJ) (ts:List (Nat × Nat)),(∀ f ∈ L,¬ f.kept < f.all.length /\ f.all ≠ []) -> crashL L ts = L
  | [],_,_=>rfl
  | f :: r,ts,h=>by
    obtain ⟨h1,h2⟩:=h f (List.mem_cons_self ..)
    unfold crashL cP kN
    rw [if_neg h1,if_neg h2,if_neg h1,sC r ts fun g hg=>h g (List.mem_cons_of_mem _ hg)]
    rfl
theorem aAV (f:aJ) (ts:List (Nat × Nat)):∀ g ∈ cP f ts,¬ g.kept < g.all.length /\ g.all ≠ []:=by
  intro g hg
  unfold cP at hg
  split at hg
  . split at hg
    . cases hg
    . rename_i hne
      obtain rfl:=List.mem_singleton.1 hg
      exact ⟨Nat.lt_irrefl _,hne⟩
  . rename_i h1
    split at hg
    . cases hg
    . rename_i hne
      obtain rfl:=List.mem_singleton.1 hg
      exact ⟨h1,hne⟩
theorem qQ:∀ (L:List aJ) (ts:List (Nat × Nat)),∀ g ∈ crashL L ts,¬ g.kept < g.all.length /\ g.all ≠ []
  | [],_=>fun g hg=>by cases hg
  | f :: r,ts=>fun g hg=>by
    unfold crashL at hg
    rcases List.mem_append.1 hg with hg | hg
    . exact aAV f ts g hg
    . exact qQ r _ g hg
theorem aBW (D:aA) (ts us:List (Nat × Nat)):cE (cE D ts) us = cE D ts:=by
  unfold cE
  simp only
  rw [sC _ us (qQ D.files ts)]
def Rdy (D:aA) (m:Int):Prop:=∃ D0 t v t' v' s L,VCr D0 t v t' v' s L /\ D0.steps <= m /\ ∀ ts,∃ us,eW (cE D ts) = eW (cE D0 us)
theorem VCr.rdy {D:aA} {t v t' v':Int} {s:bI} {L:aK} {m:Int} (h:VCr D t v t' v' s L) (hs:D.steps <= m):Rdy D m:=⟨D,t,v,t',v',s,L,h,hs,fun ts=>⟨ts,rfl⟩⟩
theorem VCr.aKq {D:aA} {t v t' v':Int} {s:bI} {L:aK} {m:Int} (h:VCr D t v t' v' s L) (hs:D.steps <= m) (us:List (Nat × Nat)):Rdy (cE D us) m:=⟨D,t,v,t',v',s,L,h,hs,fun ts=>⟨us,by rw [aBW]⟩⟩
def aEY (D:aA) (V:cC) (m:Int):Prop:=aS D /\ D.steps <= m /\ ((D.down = false /\ hE D V) \/ (D.down = true /\ Rdy D m))
structure MX (w0 cw:World) (b:VB) (ob:Nat) (r:TOp) (D:aA) (V:cC):Prop where
  vlt:∃ ev fv el,aX cw b ev fv el D V /\ (∀ k,iT b ev fv k -> w0.heap.size <= k) /\ ¬ iT b ev fv ob
  box:aBI cw ob 0 r
  bel:Below w0.heap.size w0 cw
theorem MX.lt {w0 cw:World} {b:VB} {ob:Nat} {r:TOp} {D:aA} {V:cC} (h:MX w0 cw b ob r D V):ob < cw.heap.size:=World.block_lt_of_cell? _ _ h.box.c0
theorem MX.step {w0 cw cw':World} {b:VB} {ob:Nat} {r:TOp} {D D':aA} {V V':cC} {ev fv ev' fv':Value} {el':bF} (h:MX w0 cw b ob r D V) (hlog:(∀ k,iT b ev fv k -> w0.heap.size <= k) /\ ¬ iT b ev fv ob) (hv:aX cw' b ev' fv' el' D' V') (hs:cI b cw ev fv cw' ev' fv'):MX w0 cw' b ob r D' V':=by
  refine ⟨⟨ev',fv',el',hv,fun k hk=>?_,fun hk=>?_⟩,h.box.kept hs.1 hlog.2,h.bel.trans (hs.1.below h.bel.size fun k hk=>hlog.1 k hk)⟩
  . rcases hs.own hk with e | e
    . exact hlog.1 k e
    . have:=h.bel.size;omega
  . rcases hs.own hk with e | e
    . exact hlog.2 e
    . have:=h.lt;omega
theorem MX.iH {w0 cw cw':World} {b:VB} {ob:Nat} {r:TOp} {D D':aA} {V:cC} (h:MX w0 cw b ob r D V) (hd:aG cw' b.db b.mb b.tb D') (hk:Kept cw cw' (bA b.db b.mb b.tb)):MX w0 cw' b ob r D' V:=by
  obtain ⟨ev,fv,el,h1,h2,h3⟩:=h.vlt
  have ho:∀ k,bA b.db b.mb b.tb k -> iT b ev fv k:=fun k e=>.inr (.inr (.inr (.inr (.inl e))))
  exact ⟨⟨ev,fv,el,h1.iH hd hk,h2,h3⟩,h.box.kept hk (fun e=>h3 (ho _ e)),h.bel.trans (hk.below h.bel.size fun k e=>h2 k (ho k e))⟩
theorem MX.dO {w0 cw:World} {b:VB} {ob:Nat} {r:TOp} {D:aA} {V:cC} (h:MX w0 cw b ob r D V):aG cw b.db b.mb b.tb D:=let ⟨_,_,_,h1,_⟩:=h.vlt;h1.log.dO
theorem MX.aKp {w0 cw:World} {b:VB} {ob:Nat} {r:TOp} {D:aA} {V:cC} (h:MX w0 cw b ob r D V):∀ k,bA b.db b.mb b.tb k -> w0.heap.size <= k:=let ⟨_,_,_,_,h2,_⟩:=h.vlt;fun k e=>h2 k (.inr (.inr (.inr (.inr (.inl e)))))
theorem MX.aJz {w0 cw cw':World} {b b':VB} {ob:Nat} {r:TOp} {D D':aA} {V V':cC} {ev fv:Value} {el:bF} (h:MX w0 cw b ob r D V) (hv:aX cw' b' ev fv el D' V') (hk:Kept cw cw' (bA b.db b.mb b.tb)) (ho:∀ k,iT b' ev fv k -> bA b.db b.mb b.tb k \/ cw.heap.size <= k):MX w0 cw' b' ob r D' V':=by
  obtain ⟨ev0,fv0,el0,h1,h2,h3⟩:=h.vlt
  have hoo:∀ k,bA b.db b.mb b.tb k -> iT b ev0 fv0 k:=fun k e=>.inr (.inr (.inr (.inr (.inl e))))
  refine ⟨⟨ev,fv,el,hv,fun k hk=>?_,fun hk=>?_⟩,h.box.kept hk (fun e=>h3 (hoo _ e)),h.bel.trans (hk.below h.bel.size fun k e=>h2 k (hoo k e))⟩
  . rcases ho k hk with e | e
    . exact h2 k (hoo k e)
    . have:=h.bel.size;omega
  . rcases ho ob hk with e | e
    . exact h3 (hoo _ e)
    . have:=h.lt;omega
theorem MX.xK {w0 cw:World} {b:VB} {ob db mb tb:Nat} {r:TOp} {D:aA} {V:cC} (h:MX w0 cw b ob r D V) (he:b.db = db /\ b.mb = mb /\ b.tb = tb):aG cw db mb tb D:=by
  obtain ⟨rfl,rfl,rfl⟩:=he
  exact h.dO
theorem MX.aI4 {w0 cw:World} {b:VB} {ob db mb tb:Nat} {r:TOp} {D:aA} {V:cC} (h:MX w0 cw b ob r D V) (he:b.db = db /\ b.mb = mb /\ b.tb = tb):∀ k,bA db mb tb k -> w0.heap.size <= k:=by
  obtain ⟨rfl,rfl,rfl⟩:=he
  exact h.aKp
theorem MX.sK {w0 cw cw':World} {b:VB} {ob db mb tb:Nat} {r:TOp} {D D':aA} {V:cC} (h:MX w0 cw b ob r D V) (he:b.db = db /\ b.mb = mb /\ b.tb = tb) (hd:aG cw' db mb tb D') (hk:Kept cw cw' (bA db mb tb)):MX w0 cw' b ob r D' V:=by
  obtain ⟨rfl,rfl,rfl⟩:=he
  exact h.iH hd hk
theorem MX.aIL {w0 cw cw':World} {b b':VB} {ob db mb tb:Nat} {r:TOp} {D D':aA} {V V':cC} {ev fv:Value} {el:bF} (h:MX w0 cw b ob r D V) (he:b.db = db /\ b.mb = mb /\ b.tb = tb) (hv:aX cw' b' ev fv el D' V') (hk:Kept cw cw' (bA db mb tb)) (ho:∀ k,iT b' ev fv k -> bA db mb tb k \/ cw.heap.size <= k):MX w0 cw' b' ob r D' V':=by
  obtain ⟨rfl,rfl,rfl⟩:=he
  exact h.aJz hv hk ho
theorem aFJ {w:World} {rs:List TOp} {r:TOp} (hl:gA rs = true) (hr:r ∈ rs) (ho:wY w r):∃ (ml:bF) (xms:List Int) (xd:List Nat),oX w r.lv ml /\ Few ml /\ ml.length = r.l.length /\ cU w (.agg #[.int .u64 r.i,.int .u64 r.t,.slice r.am r.nm r.cm,.slice r.ad r.nd r.cd]) ⟨(r.i:Int),r.t,xms,xd⟩:=by
  have h1:iE r = true:=by
    unfold gA at hl
    rw [Bool.and_eq_true,List.all_eq_true] at hl
    exact hl.1 r hr
  unfold iE at h1
  rw [Bool.and_eq_true,List.all_eq_true] at h1
  obtain ⟨h2,h3⟩:=h1
  have h4:=of_decide_eq_true h2
  obtain ⟨ml,h5,h6,h7⟩:=ho.l.aKh fun e he=>of_decide_eq_true (h3 e he)
  obtain ⟨xms,_,q1⟩:=ho.m (by omega)
  obtain ⟨xd,_,q2⟩:=ho.d (by omega)
  exact ⟨ml,xms,xd,h5,⟨by omega,h7⟩,h6,_,_,rfl,q1,q2⟩
theorem aD2 {rs:List TOp} (hl:gA rs = true):rs.length <= 60:=by
  unfold gA at hl
  rw [Bool.and_eq_true] at hl
  exact of_decide_eq_true hl.2
theorem aIB {w0 cw:World} {b:VB} {ob:Nat} {r:TOp} {D:aA} {V:cC} (h:MX w0 cw b ob r D V) (hv:hE D V) (hst:D.steps + 300 <= 1000000000) {ml:bF} {xms:List Int} {xd:List Nat} {k n:Int} {a:Nat} {ea:Option Addr} {en ec:Nat} {st sv:Int} {i:Nat} {t:Int} {am ad:Option Addr} {nm cm nd cd:Nat} {tv:Value}
    (ha:(a:Int) < 18446744073709551616) (hst0:0 <= st) (hi9:(i:Int) < 18446744073709551616) (hm:oX w0 (.slice ea en ec) ml) (hf:Few ml) (hx:cU w0 (.agg #[.int .u64 i,.int .u64 t,.slice am nm cm,.slice ad nd cd]) ⟨(i:Int),t,xms,xd⟩) :
    Calls Tryz.prog 44 #[.pointer (some ⟨b.vb,0,none⟩),.agg #[.int .i64 k,.int .i64 n,.int .u64 a,.slice ea en ec,.int .u64 st,.int .i64 sv,.int .u64 i,.int .u64 t,.slice am nm cm,.slice ad nd cd,tv]] cw fun e w'=>e = .returned (.int .i64 (opV k a (ml.map (·.1)) st sv ⟨(i:Int),t,xms,xd⟩ D V).2.2) /\ MX w0 w' b ob r (opV k a (ml.map (·.1)) st sv ⟨(i:Int),t,xms,xd⟩ D V).1 (opV k a (ml.map (·.1)) st sv ⟨(i:Int),t,xms,xd⟩ D V).2.1:=by
  obtain ⟨ev,fv,el,h1,h2,h3⟩:=h.vlt
  have hm':qO cw (jH b.lb b.db b.mb b.tb ev fv) (.slice ea en ec) ml:=hm.arg h.bel fun k e=>h2 k (.inr (.inr (.inr e)))
  have hxk:∀ w',Kept cw w' (iT b ev fv) -> cU w' (.agg #[.int .u64 i,.int .u64 t,.slice am nm cm,.slice ad nd cd]) ⟨(i:Int),t,xms,xd⟩:=fun w' hk=>hx.below (h.bel.trans (hk.below h.bel.size h2))
  refine (aJ6 h1 hv hst k n a ea en ec st sv i t am ad nm cm nd cd tv xms xd ha hst0 hi9 hm' hf hxk).mono ?_
  rintro E w' ⟨rfl,ev',fv',el',h5,h6⟩
  exact ⟨rfl,h.step ⟨h2,h3⟩ h5 h6⟩
theorem aIG {D:aA} {V:cC} (h:hE D V) {m:Int} (hm:D.steps + 300 <= m) (hm9:m <= 1000000000) (k:Int) (a:Nat) (ms:List bV) {t:Int} (ht:0 <= t) (v:Int) (x:bI):aEY (opV k a ms t v x D V).1 (opV k a ms t v x D V).2.1 m:=by
  obtain ⟨h1,h2⟩:=aJw h (by omega) k a ms ht v x
  cases hd:(opV k a ms t v x D V).1.down with
  | false=>exact ⟨(h1 hd).cut.eN,by omega,.inl ⟨hd,h1 hd⟩⟩
  | true =>
    obtain ⟨t',v',s,L,hc⟩:=aJv h (by omega) k a ms ht v x hd
    exact ⟨hc.eN,by omega,.inr ⟨hd,hc.rdy (by omega)⟩⟩
theorem aAE {w0:World} {v:Value} {ts:List (Nat × Nat)} (h:dU w0 v ts) {S:Nat -> Prop} (hs:∀ k,S k -> w0.heap.size <= k):ts = [] \/ ∀ b,v.ownBlock = some b -> ¬ S b:=by
  rcases ts with _ | ⟨x,l⟩
  . exact .inl rfl
  . refine .inr fun b hbb hS=>?_
    obtain ⟨a,c,rfl,_,hc⟩:=h.1
    obtain ⟨b',o,rfl,hlt,_⟩:=hc 0 (by simp)
    obtain rfl:b' = b:=Option.some.inj hbb
    have:=hs _ hS
    omega
end Go.Proofs.YtjdglpcnkiioeaaGreat
