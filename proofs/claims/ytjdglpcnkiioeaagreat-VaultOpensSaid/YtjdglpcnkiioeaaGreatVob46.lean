/- For vltopens_law_holds. -/
import Derived.Test.YtjdglpcnkiioeaaGreatVob24
import Derived.Test.YtjdglpcnkiioeaaGreatVob44
set_option maxHeartbeats 16000000
set_option maxRecDepth 100000
namespace Go.Proofs.YtjdglpcnkiioeaaGreat
open Go.ChangeShapes Go.WideShapes Go.ChangeAt Go.RowKit Go.Deep Go.Proofs.Own

theorem aBU:Tryz.prog.cellsOf 36=1:=by kernel_rfl
section
variable {H:Type} {enc:TypeId × Value->H} {W:World}
end
open Go.RowKit Go.Maps Go.Proofs.Own Go.Shelf

structure eB where
 t:Int
 v:Int
 s:bM
 L:aQ
 br:Bool
def aBM (X:Nat->Prop)(vb bb lb db mb tb:Nat)(ev fv:Value):Nat->Prop:=fun k=>k≠vb/\k≠bb /\ ¬mE lb db mb tb ev fv k/\X k
structure VB where
 vb:Nat
 bb:Nat
 sb:Nat
 lb:Nat
 db:Nat
 mb:Nat
 tb:Nat
 X:Nat->Prop
structure bG (w:World)(b:VB)(ev fv:Value)(el:bN)(D:aA)(V:eB):Prop where
 c0:w.cell? ⟨b.vb,0,none⟩=some (.pointer (some ⟨b.bb,0,none⟩))
 c1:w.cell? ⟨b.vb,1,none⟩=some (.pointer (some ⟨b.sb,0,none⟩))
 c2:w.cell? ⟨b.vb,2,none⟩=some (.pointer (some ⟨b.lb,0,none⟩))
 c3:w.cell? ⟨b.vb,3,none⟩=some (.bool V.br)
 f3:w.frozen? ⟨b.vb,3,none⟩=false
 n8:iF w b.vb
 book:fB w b.bb b.db V.t V.v
 store:cQ (aBM b.X b.vb b.bb b.lb b.db b.mb b.tb ev fv) w b.sb b.db b.mb b.tb V.s
 log:bF w b.lb b.db b.mb b.tb ev fv el D V.L
 nv:¬mE b.lb b.db b.mb b.tb ev fv b.vb
 nb:b.bb≠b.vb /\ ¬mE b.lb b.db b.mb b.tb ev fv b.bb
 ns:b.sb≠b.vb/\b.sb≠b.bb /\ ¬mE b.lb b.db b.mb b.tb ev fv b.sb
 sok:V.s=eO\/1<=V.s.i
 xn:∀k,w.heap.size<=k->b.X k
def oO (b:VB)(ev fv:Value):Nat->Prop:=fun k=>k=b.vb\/k=b.bb\/k=b.sb\/mE b.lb b.db b.mb b.tb ev fv k
theorem bG.lt {w:World}{b:VB}{ev fv:Value}{el:bN}{D:aA}{V:eB}(h:bG w b ev fv el D V):b.vb<w.heap.size:=World.block_lt_of_cell? _ _ h.c0
theorem bG.mI {w:World}{b:VB}{ev fv:Value}{el:bN}{D:aA}{V:eB}(h:bG w b ev fv el D V){k:Nat}(hk:oO b ev fv k):k<w.heap.size:=by
 rcases hk with rfl|rfl|rfl|hk
 ·exact h.lt
 ·exact h.book.lt
 ·exact h.store.lt
 ·exact h.log.mI hk
theorem bG.below {w w':World}{b:VB}{ev fv:Value}{el:bN}{D:aA}{V:eB}(h:bG w b ev fv el D V)(hb:Below w.heap.size w w'):bG w' b ev fv el D V :=
 have hl:=h.lt
 ⟨Below.at hb h.c0 hl,Below.at hb h.c1 hl,Below.at hb h.c2 hl,Below.at hb h.c3 hl,(hb.frozen (p:=⟨b.vb,3,none⟩) hl).trans h.f3,h.n8.kept (Kept.aL hb (S:=fun _=>False) fun k h1 h2=>by omega) hl id,h.book.below hb,h.store.below hb,h.log.below hb,h.nv,h.nb,h.ns,h.sok,fun k q=>h.xn k (Nat.le_trans hb.size q)⟩
def dN (b:VB)(w:World)(ev fv:Value)(w':World)(ev' fv':Value):Prop :=
 Kept w w' (oO b ev fv)/\(∀k,ev'.ownBlock=some k->ev.ownBlock=some k\/w.heap.size<=k)/\(∀k,fv'.ownBlock=some k->fv.ownBlock=some k\/w.heap.size<=k)
theorem dN.mH {b:VB}{w w':World}{ev fv ev' fv':Value}(h:aX b.lb b.db b.mb b.tb w ev fv w' ev' fv'):dN b w ev fv w' ev' fv':=⟨h.1.mono fun _ _ e=>.inr (.inr (.inr e)),h.2.1,h.2.2⟩
theorem dN.below {b:VB}{w w':World}{ev fv:Value}(h:Below w.heap.size w w'):dN b w ev fv w' ev fv:=⟨Kept.aL h fun k h1 h2=>by omega,fun _ h=>.inl h,fun _ h=>.inl h⟩
theorem dN.trans {b:VB}{w w1 w2:World}{ev fv ev1 fv1 ev2 fv2:Value}(h:dN b w ev fv w1 ev1 fv1)(k:dN b w1 ev1 fv1 w2 ev2 fv2):dN b w ev fv w2 ev2 fv2:=by
 refine⟨h.1.andThen k.1 fun j hj hs=>?_,fun j hj=>?_,fun j hj=>?_⟩
 ·rcases hs with hs|hs|hs|hs|hs|hs|hs|hs
  ·exact hs
  ·exact .inl hs
  ·exact .inr (.inl hs)
  ·exact .inr (.inr (.inl hs))
  ·exact .inr (.inr (.inr (.inl hs)))
  ·exact .inr (.inr (.inr (.inr (.inl hs))))
  ·rcases h.2.1 j hs with e|e
   ·exact .inr (.inr (.inr (.inr (.inr (.inl e)))))
   ·exact absurd hj (Nat.not_lt.2 e)
  ·rcases h.2.2 j hs with e|e
   ·exact .inr (.inr (.inr (.inr (.inr (.inr e)))))
   ·exact absurd hj (Nat.not_lt.2 e)
 ·rcases k.2.1 j hj with e|e
  ·exact h.2.1 j e
  ·exact .inr (Nat.le_trans h.1.size e)
 ·rcases k.2.2 j hj with e|e
  ·exact h.2.2 j e
  ·exact .inr (Nat.le_trans h.1.size e)
theorem aX.aBr {lb db mb tb:Nat}{w w':World}{ev fv ev' fv':Value}(hs:aX lb db mb tb w ev fv w' ev' fv'){k:Nat}(hk:k<w.heap.size)(hn:¬mE lb db mb tb ev fv k):¬mE lb db mb tb ev' fv' k:=by
 rintro(hq|hq|hq|hq)
 ·exact hn (.inl hq)
 ·exact hn (.inr (.inl hq))
 ·rcases hs.2.1 k hq with e|e
  ·exact hn (.inr (.inr (.inl e)))
  ·omega
 ·rcases hs.2.2 k hq with e|e
  ·exact hn (.inr (.inr (.inr e)))
  ·omega
theorem bG.mG {w w':World}{b:VB}{ev fv ev' fv':Value}{el el':bN}{D D':aA}{V:eB}{L':aQ}(h:bG w b ev fv el D V)(hl:bF w' b.lb b.db b.mb b.tb ev' fv' el' D' L')(hs:aX b.lb b.db b.mb b.tb w ev fv w' ev' fv') :
  bG w' b ev' fv' el' D' { V with L:=L' }:=by
 have hv:=h.lt;refine⟨hs.1.cell h.c0 h.nv,hs.1.cell h.c1 h.nv,hs.1.cell h.c2 h.nv,hs.1.cell h.c3 h.nv,(hs.1.frozen (a:=⟨b.vb,3,none⟩) hv h.nv).trans h.f3,h.n8.kept hs.1 hv h.nv,h.book.kept hs.1 h.nb.2,?_,hl,hs.aBr hv h.nv,⟨h.nb.1,hs.aBr h.book.lt h.nb.2⟩,⟨h.ns.1,h.ns.2.1,hs.aBr h.store.lt h.ns.2.2⟩,h.sok,fun k q=>h.xn k (Nat.le_trans hs.1.size q)⟩;exact((h.store.jU (T:=fun k=>aBM b.X b.vb b.bb b.lb b.db b.mb b.tb ev fv k/\aBM b.X b.vb b.bb b.lb b.db b.mb b.tb ev' fv' k) (fun k hk hlt=>⟨hk,hk.1,hk.2.1,hs.aBr hlt hk.2.2.1,hk.2.2.2⟩)).nM hs.1 h.ns.2.2 (fun k hk=>.inr fun e=>e.1.2.2.1 hk)).jU (fun k hk _=>hk.2)
theorem bF.aside {w w':World}{lb db mb tb x:Nat}{ev fv:Value}{el:bN}{D D':aA}{L:aQ}(h:bF w lb db mb tb ev fv el D L)(hd:aG w' db mb tb D')(hk:Kept w w' (fun k=>aZ db mb tb k\/k=x))(hx:¬mE lb db mb tb ev fv x)(h8:iF w x):bF w' lb db mb tb ev fv el D' L:=by
 have hl:=h.lt;have n0:¬(aZ db mb tb lb\/lb=x):=fun e=>e.elim h.nl (fun e=>hx (.inl e.symm));refine⟨hd,hk.cell h.c0 n0,hk.cell h.c1 n0,hk.cell h.c2 n0,hk.cell h.c3 n0,hk.cell h.c4 n0,fun j h1 h2=>(hk.frozen (a:=⟨lb,j,none⟩) hl n0).trans (h.fz j h1 h2),(fun k hk2 j y hy=>by subst hk2;exact h.n8 k rfl j y (by rw[<- World.cell?_of_block (a:=⟨k,j,none⟩) (hk.block k hl n0)];exact hy)),h.es,
  h.er.kept hk fun b hb e=>e.elim (h.ne b hb).2.1 (fun e=>hx (.inr (.inr (.inl (e ▸ hb))))),h.fr.kept hk fun b hb e=>e.elim (h.nf b hb).2 (fun e=>hx (.inr (.inr (.inr (e ▸ hb))))),fun p hp=>?_,h.nl,h.ne,h.nf⟩
 obtain⟨h1,h2,h3⟩:=h.dat p hp;refine⟨h1.qY hk fun hne b hb e=>?_,h2,h3⟩;rcases e with e|e
 ·exact h3 b hb e
 ·obtain⟨b',o,c,e2,_,_,hc⟩:=h1.eD (List.length_pos_iff.2 hne);rw[e2]at hb;obtain rfl:b'=b:=Option.some.inj hb;have:=hc 0 (List.length_pos_iff.2 hne);rw[e]at this;exact h8 _ _ this
theorem cQ.aLk {R:Nat->Prop}{w:World}{sb db mb tb:Nat}{s:bM}(h:cQ R w sb db mb tb s):iF w sb:=let ⟨_,_,h1,_⟩:=h;h1.n8
theorem bG.aHd {w w':World}{b:VB}{ev fv:Value}{el:bN}{D D':aA}{V:eB}{s':bM}(h:bG w b ev fv el D V)(hd:aG w' b.db b.mb b.tb D')(hst:cQ (aBM b.X b.vb b.bb b.lb b.db b.mb b.tb ev fv) w' b.sb b.db b.mb b.tb s')(hk:Kept w w' (fun k=>aZ b.db b.mb b.tb k\/k=b.sb))(hok:s'=eO\/1<=s'.i) :
  bG w' b ev fv el D' { V with s:=s' }:=by
 have hn:¬(aZ b.db b.mb b.tb b.vb\/b.vb=b.sb):=fun e=>e.elim (fun e=>h.nv (.inr (.inl e))) (fun e=>h.ns.1 e.symm);have hb:¬(aZ b.db b.mb b.tb b.bb\/b.bb=b.sb):=fun e=>e.elim (fun e=>h.nb.2 (.inr (.inl e))) (fun e=>h.ns.2.1 e.symm);exact⟨hk.cell h.c0 hn,hk.cell h.c1 hn,hk.cell h.c2 hn,hk.cell h.c3 hn,(hk.frozen (a:=⟨b.vb,3,none⟩) h.lt hn).trans h.f3,h.n8.kept hk h.lt hn,h.book.kept hk hb,hst,h.log.aside hd hk h.ns.2.2 h.store.aLk,h.nv,h.nb,h.ns,hok,fun k q=>h.xn k (Nat.le_trans hk.size q)⟩
theorem bG.aJH {w:World}{b:VB}{ev fv:Value}{el:bN}{D:aA}{V:eB}(h:bG w b ev fv el D V)(x:Bool):bG (w.setCell ⟨b.vb,3,none⟩ (.bool x)) b ev fv el D { V with br:=x }:=by
 have hk:Kept w (w.setCell ⟨b.vb,3,none⟩ (.bool x)) (fun k=>k=b.vb):=Kept.setCell w ⟨b.vb,3,none⟩ _;have hb:¬b.bb=b.vb:=h.nb.1;have hk':Kept w (w.setCell ⟨b.vb,3,none⟩ (.bool x)) (fun k=>aZ b.db b.mb b.tb k\/k=b.vb):=hk.mono fun _ _ e=>.inr e;have hd:aG (w.setCell ⟨b.vb,3,none⟩ (.bool x)) b.db b.mb b.tb D:=h.log.dZ.cR hk (fun k h1 h2=>h.nv (.inr (.inl (h2 ▸ h1)))) (fun k e j y hy=>by subst e;exact h.n8 j y hy);exact⟨by rw[cso (by simp)];exact h.c0,by rw[cso (by simp)];exact h.c1,by rw[cso (by simp)];exact h.c2,css h.c3,by rw[fsc];exact h.f3,
  h.n8.set _ h.c3 (fun y e=>by cases e),h.book.kept hk hb,h.store.nM hk h.ns.1 (fun k e=>.inr fun q=>q.1 e),h.log.aside hd hk' h.nv h.n8,h.nv,h.nb,h.ns,h.sok,fun k q=>h.xn k (Nat.le_trans hk.size q)⟩
theorem bG.aside {w w':World}{b:VB}{ev fv:Value}{el:bN}{D:aA}{V:eB}{x:Nat}(h:bG w b ev fv el D V)(hk:Kept w w' (fun k=>k=x))(hx:¬oO b ev fv x)(hX:¬b.X x)(h8:iF w x):bG w' b ev fv el D V:=by
 have hn:¬b.vb=x:=fun e=>hx (.inl e.symm);have hd:aG w' b.db b.mb b.tb D:=h.log.dZ.cR hk (fun k h1 h2=>hx (.inr (.inr (.inr (.inr (.inl (h2 ▸ h1))))))) (fun k e j y hy=>by subst e;exact h8 j y hy);exact⟨hk.cell h.c0 hn,hk.cell h.c1 hn,hk.cell h.c2 hn,hk.cell h.c3 hn,(hk.frozen (a:=⟨b.vb,3,none⟩) h.lt hn).trans h.f3,h.n8.kept hk h.lt hn,h.book.kept hk (fun e=>hx (.inr (.inl e.symm))),h.store.nM hk (fun e=>hx (.inr (.inr (.inl e.symm)))) (fun k e=>.inr fun q=>hX (e ▸ q.2.2.2)),
  h.log.aside hd (hk.mono fun _ _ e=>.inr e) (fun e=>hx (.inr (.inr (.inr e)))) h8,h.nv,h.nb,h.ns,h.sok,fun k q=>h.xn k (Nat.le_trans hk.size q)⟩
open Go.Lib (hid)
open Go.RowKit Go.Maps Go.Proofs.Own Go.Shelf

theorem aKp (x y z:Nat):∀w:World,(Instr.field 109 (.agg #[.pointer (some ⟨x,0,none⟩),.pointer (some ⟨y,0,none⟩),.pointer (some ⟨z,0,none⟩)]) 0).run Tryz.prog w = .ok (.pointer (some ⟨x,0,none⟩)) w:=fun _=>by kernel_rfl
theorem aKq (x y z:Nat):∀w:World,(Instr.field 109 (.agg #[.pointer (some ⟨x,0,none⟩),.pointer (some ⟨y,0,none⟩),.pointer (some ⟨z,0,none⟩)]) 1).run Tryz.prog w = .ok (.pointer (some ⟨y,0,none⟩)) w:=fun _=>by kernel_rfl
theorem aBz (x y z:Nat):∀w:World,(Instr.field 109 (.agg #[.pointer (some ⟨x,0,none⟩),.pointer (some ⟨y,0,none⟩),.pointer (some ⟨z,0,none⟩)]) 2).run Tryz.prog w = .ok (.pointer (some ⟨z,0,none⟩)) w:=fun _=>by kernel_rfl
theorem qC {w:World}{b:VB}{ev fv:Value}{el:bN}{D:aA}{V:eB}(h:bG w b ev fv el D V) :
  Calls Tryz.prog 106 #[.pointer (some ⟨b.vb,0,none⟩)] w fun e w'=>e = .returned (.agg #[.pointer (some ⟨b.bb,0,none⟩),.pointer (some ⟨b.sb,0,none⟩),.pointer (some ⟨b.lb,0,none⟩)])/\Below w.heap.size w w':=by
 have c0:=h.c0;have c1:=h.c1;have c2:=h.c2;have hlt:=h.lt;obtain⟨vb,bb,sb,lb,db,mb,tb,xq⟩:=b;simp only at c0 c1 c2 hlt ⊢;clear h;go_enter Tryz.func106,Tryz.ntmps106;go_wp2_with fail;refine bodyPost_ret (v:=.agg #[.pointer (some ⟨bb,0,none⟩),.pointer (some ⟨sb,0,none⟩),.pointer (some ⟨lb,0,none⟩)]) (by simp[results,Tryz.results106,go_sem]) rfl ?_;exact⟨rfl,(Below.refl _ _).alloc (Nat.le_refl _) _⟩
theorem aBA {w:World}{b:VB}{ev fv:Value}{el:bN}{D:aA}{V:eB}(h:bG w b ev fv el D V) :
  Calls Tryz.prog 102 #[.pointer (some ⟨b.vb,0,none⟩)] w fun e w'=>e = .returned (.int .i64 (if V.br then 50 else 0))/\w=w':=by
 have c0:=h.c0;have c3:=h.c3;obtain⟨vb,bb,sb,lb,db,mb,tb,xq⟩:=b;obtain⟨t,v,s,L,br⟩:=V;simp only at c0 c3 ⊢;clear h;cases br
 ·go_enter Tryz.func102,Tryz.ntmps102;go_wp2_with fail;go_ret;exact⟨rfl,rfl⟩
 ·go_enter Tryz.func102,Tryz.ntmps102;go_wp2_with fail;go_ret;exact⟨rfl,rfl⟩
theorem lJ {w:World}{b:VB}{ev fv:Value}{el:bN}{D:aA}{V:eB}(h:bG w b ev fv el D V)(n:Nat) :
  Calls Tryz.prog 103 #[.pointer (some ⟨b.vb,0,none⟩),.int .i64 n] w fun e w'=>e = .returned (.int .i64 n)/\bG w' b ev fv el D { V with br:=V.br || decide (n=50) }/\Kept w w' (fun k=>k=b.vb):=by
 have HH:=hid h;have c3:=h.c3;have f3:=h.f3;clear h;cases hbr:V.br with
 | true =>
  rw[hbr]at c3;clear hbr;have FIN:=hid (HH.out.aJH true);have K:=hid (Kept.setCell w ⟨b.vb,3,none⟩ (.bool true));obtain⟨vb,bb,sb,lb,db,mb,tb,xq⟩:=b;simp only at c3 f3 ⊢;go_enter Tryz.func103,Tryz.ntmps103;go_wp2_with fail;go_ret;exact⟨rfl,FIN.out,K.out⟩
 | false =>
  rw[hbr]at c3;clear hbr;obtain⟨x,hx⟩:∃x,decide (n=50)=x:=⟨_,rfl⟩;have hb:((n:Int)==50)=x:=by rw[<- hx,Bool.eq_iff_iff,beq_iff_eq,decide_eq_true_iff];omega
  have FIN:=hid (HH.out.aJH x);have K:=hid (Kept.setCell w ⟨b.vb,3,none⟩ (.bool x));rw[hx,Bool.false_or];obtain⟨vb,bb,sb,lb,db,mb,tb,xq⟩:=b;simp only at c3 f3 ⊢;clear hx;go_enter Tryz.func103,Tryz.ntmps103;go_wp2_with fail;go_ret;exact⟨rfl,FIN.out,K.out⟩
theorem aEl {w:World}{b:VB}{ev fv:Value}{el:bN}{D:aA}{V:eB}(h:bG w b ev fv el D V) :
  Calls Tryz.prog 43 #[.pointer (some ⟨b.vb,0,none⟩)] w fun e w'=>e = .returned (.bool V.br)/\w=w':=by
 have c3:=h.c3;obtain⟨vb,bb,sb,lb,db,mb,tb,xq⟩:=b;simp only at c3 ⊢;clear h;go_enter Tryz.func43,Tryz.ntmps43;go_wp2_with fail;go_ret;exact⟨rfl,rfl⟩
theorem aGs {w:World}{b:VB}{ev fv:Value}{el:bN}{D:aA}{V:eB}(h:bG w b ev fv el D V)(hl:(V.L.b:Int)+1<18446744073709551616) :
  Calls Tryz.prog 49 #[.pointer (some ⟨b.vb,0,none⟩)] w fun e w'=>e = .returned (.int .u64 ((V.L.b:Int)+1))/\Below w.heap.size w w':=by
 have HH:=hid h;have HLL:=hid hl;clear h hl;obtain⟨vb,bb,sb,lb,db,mb,tb,xq⟩:=b;simp only;go_enter Tryz.func49,Tryz.ntmps49;go_wp2_with fail;refine(qC HH.out).mono ?_;rintro e w1 ⟨rfl,hb1⟩;dsimp only;have hfd:=aBz bb sb lb;have B1:=hid hb1;clear hb1;go_wp2_with fail;refine(aEs (HH.out.below B1.out).log HLL.out).mono ?_;rintro e w2 ⟨rfl,rfl⟩;go_wp2_with fail;go_ret;exact⟨rfl,B1.out⟩
theorem aDa {w:World}{b:VB}{ev fv:Value}{el:bN}{D:aA}{V:eB}(h:bG w b ev fv el D V)(hl:(V.L.last:Int)<18446744073709551616) :
  Calls Tryz.prog 45 #[.pointer (some ⟨b.vb,0,none⟩)] w fun e w'=>e = .returned (.int .u64 V.L.last)/\Below w.heap.size w w':=by
 have HH:=hid h;have HLL:=hid hl;clear h hl;obtain⟨vb,bb,sb,lb,db,mb,tb,xq⟩:=b;simp only;go_enter Tryz.func45,Tryz.ntmps45;go_wp2_with fail;refine(qC HH.out).mono ?_;rintro e w1 ⟨rfl,hb1⟩;dsimp only;have hfd:=aBz bb sb lb;have B1:=hid hb1;clear hb1;go_wp2_with fail;refine(nG (HH.out.below B1.out).log HLL.out).mono ?_;rintro e w2 ⟨rfl,hb2⟩;have B2:Hid (Below w.heap.size w w2):=hid (B1.out.trans (hb2.mono B1.out.size));clear hb2;go_wp2_with fail;go_ret;exact⟨rfl,B2.out⟩
theorem sT {w:World}{b:VB}{ev fv:Value}{el:bN}{D:aA}{V:eB}(h:bG w b ev fv el D V)(hl:V.L.last<=HX)(hn:V.L.es.length<=2147483648)(index:Nat)(hi:(index:Int)<18446744073709551616)(most:Int)(hmo:most<=9223372036854775807) :
  Calls Tryz.prog 52 #[.pointer (some ⟨b.vb,0,none⟩),.int .u64 index,.int .i64 most] w (aJs V.L index most w):=by
 have HH:=hid h;have HLL:=hid hl;have HN:=hid hn;have HI:=hid hi;have HM:=hid hmo;clear h hl hn hi hmo;obtain⟨vb,bb,sb,lb,db,mb,tb,xq⟩:=b;simp only;go_enter Tryz.func52,Tryz.ntmps52;go_wp2_with fail;refine(qC HH.out).mono ?_;rintro e w1 ⟨rfl,hb1⟩;dsimp only;have hfd:=aBz bb sb lb;have B1:=hid hb1;clear hb1;go_wp2_with fail;refine(aK5 (HH.out.below B1.out).log HLL.out HN.out index HI.out most HM.out).mono ?_;rintro e w2 ⟨v',l',rfl,ho,hm,hd,hn2,hb2⟩;obtain⟨a2,n2,c2,rfl⟩:=eT ho;go_wp2_with fail;go_ret;exact⟨_,l',rfl,ho,hm,hd.mono fun p hp k _ hk=>Nat.lt_of_lt_of_le hk B1.out.size,fun k hk=>Nat.le_trans B1.out.size (hn2 k hk),B1.out.trans (hb2.mono B1.out.size)⟩
theorem aGt {w:World}{b:VB}{ev fv:Value}{el:bN}{D:aA}{V:eB}(h:bG w b ev fv el D V) :
  Calls Tryz.prog 51 #[.pointer (some ⟨b.vb,0,none⟩)] w fun e w'=>e = .returned (.agg #[.int .u64 V.t,.int .i64 V.v])/\Below w.heap.size w w':=by
 have HH:=hid h;clear h;obtain⟨vb,bb,sb,lb,db,mb,tb,xq⟩:=b;simp only;go_enter Tryz.func51,Tryz.ntmps51;go_wp2_with fail;generalize hW1:World.alloc w _=W1;have A1:Hid (Below w.heap.size w W1):=hid (by subst hW1;exact(Below.refl _ _).alloc (Nat.le_refl _) _);have X1:Hid (SC W1 w.heap.size 0 0):=hid (by subst hW1;exact SC.box w 0 0);clear hW1;refine(qC (HH.out.below A1.out)).mono ?_;rintro e w1 ⟨rfl,hb1⟩;dsimp only;have hfd:=aKp bb sb lb;have B1:Hid (Below w.heap.size w w1):=hid (A1.out.trans (hb1.mono A1.out.size));have X2:=hid (X1.out.below hb1);clear hb1;go_wp2_with fail;refine(aEq bb db V.t V.v w1 (HH.out.below B1.out).book).mono ?_;rintro e w2 ⟨rfl,hb2⟩;have B2:Hid (Below w.heap.size w w2):=hid (B1.out.trans (hb2.mono B1.out.size));have X3:=hid (X2.out.below hb2);obtain⟨x0,x1,f0,f1⟩:=X3.out;clear hb2;go_wp2_with fail;have X4:=X3.out.set V.t V.v;obtain⟨r0,r1,_,_⟩:=X4;refine bodyPost_ret (v:=.agg #[.int .u64 V.t,.int .i64 V.v]) (by simp[results,Tryz.results51,go_sem,r0,r1]) rfl ?_;exact⟨rfl,B2.out.trans ((Kept.iO w2 w.heap.size (.int .u64 V.t) (.int .i64 V.v)).below B2.out.size fun k e=>by omega)⟩

theorem cL.tV {w:World}{i t:Int}{mv dv:Value}{s:bM}(h:cL w (.agg #[.int .u64 i,.int .u64 t,mv,dv]) s):i=s.i/\t=s.t/\(∃a n c,mv = .slice a n c) /\ ∃a n c,dv = .slice a n c:=by
 obtain⟨m,d,e,h1,h2⟩:=h;simp only[Value.agg.injEq,Array.mk.injEq,List.cons.injEq,Value.int.injEq,true_and,and_true]at e;obtain⟨e1,e2,rfl,rfl⟩:=e;obtain⟨a,c,e3,_⟩:=h1.shape;obtain⟨a',c',e4,_⟩:=h2.shape;exact⟨e1,e2,⟨_,_,_,e3⟩,⟨_,_,_,e4⟩⟩
theorem vZ {w:World}{b:VB}{ev fv:Value}{el:bN}{D:aA}{V:eB}(h:bG w b ev fv el D V) :
  Calls Tryz.prog 47 #[.pointer (some ⟨b.vb,0,none⟩)] w (aKB V.s w):=by
 have HH:=hid h;clear h;obtain⟨vb,bb,sb,lb,db,mb,tb,xq⟩:=b;simp only;go_enter Tryz.func47,Tryz.ntmps47;go_wp2_with fail;generalize hW1:World.alloc w _=W1;have A1:Hid (Below w.heap.size w W1):=hid (by subst hW1;exact(Below.refl _ _).alloc (Nat.le_refl _) _);have X1:Hid (bR W1 w.heap.size 0 0 (.slice none 0 0) (.slice none 0 0)):=hid (by subst hW1;exact bR.new w);clear hW1;refine(qC (HH.out.below A1.out)).mono ?_;rintro e w1 ⟨rfl,hb1⟩;dsimp only;have hfd:=aKq bb sb lb;have B1:Hid (Below w.heap.size w w1):=hid (A1.out.trans (hb1.mono A1.out.size));have X2:=hid (X1.out.below hb1);clear hb1;go_wp2_with fail;refine(yN (some ⟨sb,0,none⟩) db mb tb V.s w1 (.inr ⟨sb,rfl,(HH.out.below B1.out).store.is,HH.out.sok⟩)).mono ?_;rintro e w2 ⟨i,t,mv,dv,rfl,hs,hb2⟩;obtain⟨rfl,rfl,⟨am,nm,cm,rfl⟩,⟨ad,nd,cd,rfl⟩⟩:=hs.tV;have HS:=hid hs;have B2:Hid (Below w.heap.size w w2):=hid (B1.out.trans (hb2.mono B1.out.size));have X3:=hid (X2.out.below hb2);obtain⟨q0,q1,q2,q3,g0,g1,g2,g3⟩:=X3.out;clear hb2 hs hfd;go_wp2_with fail;generalize hwF:World.setCell _ _ _=wF;have RF:Hid (bR wF w.heap.size V.s.i V.s.t (.slice am nm cm) (.slice ad nd cd)):=hid (by subst hwF;exact X3.out.eN _ _ _ _);have BF:Hid (Below w.heap.size w wF):=hid (by subst hwF;exact B2.out.trans ((Kept.eN w2 w.heap.size _ _ _ _).below B2.out.size (fun k hk=>by omega)));have SF:Hid (cL wF (.agg #[.int .u64 V.s.i,.int .u64 V.s.t,.slice am nm cm,.slice ad nd cd]) V.s):=hid (by subst hwF;exact cL.eN X3.out HS.out _ _ _ _);clear hwF q0 q1 q2 q3 g0 g1 g2 g3;obtain⟨q0,q1,q2,q3,_,_,_,_⟩:=RF.out;refine bodyPost_ret (v:=.tuple #[.agg #[.int .u64 V.s.i,.int .u64 V.s.t,.slice am nm cm,.slice ad nd cd],.bool (decide (0<V.s.i))]) (by simp[results,Tryz.results47,go_sem,q0,q1,q2,q3]) rfl ?_;exact⟨_,_,_,_,rfl,SF.out,BF.out⟩
theorem aC9 {w:World}{b:VB}{ev fv:Value}{el:bN}{D:aA}{V:eB}(h:bG w b ev fv el D V) :
  Calls Tryz.prog 50 #[.pointer (some ⟨b.vb,0,none⟩)] w fun e w'=>e = .returned (.int .u64 V.s.i)/\Below w.heap.size w w':=by
 have HH:=hid h;clear h;obtain⟨vb,bb,sb,lb,db,mb,tb,xq⟩:=b;simp only;go_enter Tryz.func50,Tryz.ntmps50;go_wp2_with fail;refine(vZ HH.out).mono ?_;rintro e w1 ⟨i,t,mv,dv,rfl,hs,hb1⟩;obtain⟨rfl,rfl,⟨am,nm,cm,rfl⟩,⟨ad,nd,cd,rfl⟩⟩:=hs.tV;have B1:=hid hb1;clear hb1 hs;go_wp2_with fail;go_ret;exact⟨rfl,B1.out.alloc B1.out.size _⟩
def atW (L:aQ)(index:Nat):Option cU:=if index<=L.b then none else L.es[index-L.b-1]?
def AtP (o:Option cU)(w:World):Ending->World->Prop:=fun e w'=>∃a n c,e = .returned (.tuple #[.agg #[.int .u64 (o.getD ⟨0,0,[]⟩).t,.int .i64 (o.getD ⟨0,0,[]⟩).k,.slice a n c],.bool o.isSome])/\Bytes w' (.slice a n c) (o.getD ⟨0,0,[]⟩).d/\(∀b,(Value.slice a n c).ownBlock=some b->w.heap.size<=b)/\Below w.heap.size w w'
theorem aE5 {lb db mb tb:Nat}{ev fv:Value}{el:bN}{D:aA}{L:aQ}{w:World}(h:bF w lb db mb tb ev fv el D L)(hl:L.last<=HX)(hn:L.es.length<=2147483648)(index:Nat) :
  Calls Tryz.prog 13 #[.pointer (some ⟨lb,0,none⟩),.int .u64 index] w (AtP (atW L index) w):=by
 have hlast:L.last=L.b+L.es.length:=rfl;unfold atW;by_cases hi:index<=L.b
 ·rw[if_pos hi];refine(aIb h hl index (.inl hi)).mono ?_;rintro e w1 ⟨rfl,hb⟩;exact⟨none,0,0,rfl,Bytes.nil _,fun b hb=>by simp[Value.ownBlock]at hb,hb⟩
 ·rw[if_neg hi];cases hx:L.es[index-L.b-1]? with
  | none =>
   have:=List.getElem?_eq_none_iff.1 hx;refine(aIb h hl index (.inr (by omega))).mono ?_;rintro e w1 ⟨rfl,hb⟩;exact⟨none,0,0,rfl,Bytes.nil _,fun b hb=>by simp[Value.ownBlock]at hb,hb⟩
  | some x =>
   refine(aJn h hl hn index (by omega) hx).mono ?_;rintro e w1 ⟨dv,rfl,hB,hN,hb⟩;obtain⟨a,c,rfl,_⟩:=hB.shape;exact⟨a,_,c,rfl,hB,hN,hb⟩
theorem aEk {w:World}{b:VB}{ev fv:Value}{el:bN}{D:aA}{V:eB}(h:bG w b ev fv el D V)(hl:V.L.last<=HX)(hn:V.L.es.length<=2147483648)(index:Nat) :
  Calls Tryz.prog 46 #[.pointer (some ⟨b.vb,0,none⟩),.int .u64 index] w (AtP (atW V.L index) w):=by
 have HH:=hid h;have HLL:=hid hl;have HN:=hid hn;clear h hl hn;obtain⟨vb,bb,sb,lb,db,mb,tb,xq⟩:=b;simp only;go_enter Tryz.func46,Tryz.ntmps46;go_wp2_with fail;generalize hW1:World.alloc w _=W1;have A1:Hid (Below w.heap.size w W1):=hid (by subst hW1;exact(Below.refl _ _).alloc (Nat.le_refl _) _);have X1:Hid (EC W1 w.heap.size 0 0 (.slice none 0 0)):=hid (by subst hW1;exact EC.box w);clear hW1;refine(qC (HH.out.below A1.out)).mono ?_;rintro e w1 ⟨rfl,hb1⟩;dsimp only;have hfd:=aBz bb sb lb;have B1:Hid (Below w.heap.size w w1):=hid (A1.out.trans (hb1.mono A1.out.size));have X2:=hid (X1.out.below hb1);clear hb1;go_wp2_with fail;refine(aE5 (HH.out.below B1.out).log HLL.out HN.out index).mono ?_;rintro e w2 ⟨a,n,c,rfl,hB,hN,hb2⟩;have HB:=hid hB;have HNN:Hid (∀b,(Value.slice a n c).ownBlock=some b->w.heap.size<b):=hid fun b hb=>Nat.lt_of_lt_of_le X2.out.lt (hN b hb);have B2:Hid (Below w.heap.size w w2):=hid (B1.out.trans (hb2.mono B1.out.size));have X3:=hid (X2.out.below hb2);obtain⟨q0,q1,q2,g0,g1,g2⟩:=X3.out;clear hb2 hB hN hfd;go_wp2_with fail;have E3:=(X3.out.set ((atW V.L index).getD ⟨0,0,[]⟩).t ((atW V.L index).getD ⟨0,0,[]⟩).k).put (.slice a n c);have K3:=EC.oH w2 w.heap.size (.int .u64 ((atW V.L index).getD ⟨0,0,[]⟩).t) (.int .i64 ((atW V.L index).getD ⟨0,0,[]⟩).k) (.slice a n c);obtain⟨r0,r1,r2,_,_,_⟩:=E3;refine bodyPost_ret (v:=.tuple #[.agg #[.int .u64 ((atW V.L index).getD ⟨0,0,[]⟩).t,.int .i64 ((atW V.L index).getD ⟨0,0,[]⟩).k,.slice a n c],.bool (atW V.L index).isSome]) (by simp[results,Tryz.results46,go_sem,r0,r1,r2]) rfl ?_;exact⟨a,n,c,rfl,HB.out.kept K3 (fun b hb e=>by have:=HNN.out b hb;omega),fun b hb=>Nat.le_of_lt (HNN.out b hb),B2.out.trans (K3.below B2.out.size fun k e=>by omega)⟩
open Go.RowKit Go.Maps Go.Proofs.Own Go.Shelf

def vM (b:VB)(ev fv:Value)(r:aA × eB × Nat)(w:World):Ending->World->Prop:=fun e w' =>
 e = .returned (.int .i64 r.2.2) /\ ∃ev' fv' el',bG w' b ev' fv' el' r.1 r.2.1/\dN b w ev fv w' ev' fv'
theorem dN.told {b:VB}{w w':World}{ev fv:Value}(h:Kept w w' (fun k=>k=b.vb)):dN b w ev fv w' ev fv:=⟨h.mono fun _ _ e=>.inl e,fun _ h=>.inl h,fun _ h=>.inl h⟩
theorem zB {w:World}{b:VB}{ev fv:Value}{el:bN}{D:aA}{V:eB}(h:bG w b ev fv el D V)(hb:V.br=false) :
  Calls Tryz.prog 102 #[.pointer (some ⟨b.vb,0,none⟩)] w fun e w'=>e = .returned (.int .i64 0)/\w=w':=by
 refine(aBA h).mono ?_;rw[hb];exact fun e w' h=>h
def gN (D:aA)(V:eB)(ms:List cU):aA × eB × Nat :=
 if V.br=true then (D,V,50)
 else if (bY D V.L ms).2.2≠0 then ((bY D V.L ms).1,{ V with L:=(bY D V.L ms).2.1,br:=decide ((bY D V.L ms).2.2=50) },(bY D V.L ms).2.2)
 else ((cB (bY D V.L ms).1 (bY D V.L ms).2.1).1,{ V with L:=(cB (bY D V.L ms).1 (bY D V.L ms).2.1).2.1,br:=decide ((cB (bY D V.L ms).1 (bY D V.L ms).2.1).2.2=50) },(cB (bY D V.L ms).1 (bY D V.L ms).2.1).2.2)
theorem bG.end {w w' w2:World}{b:VB}{ev fv ev' fv':Value}{el':bN}{D':aA}{V:eB}{L':aQ}{n:Nat}(hb:V.br=false)(hs:dN b w ev fv w' ev' fv')
  (ht:bG w2 b ev' fv' el' D' { V with L:=L',br:=V.br || decide (n=50) }) (hk:Kept w' w2 (fun k=>k=b.vb)):vM b ev fv (D',{ V with L:=L',br:=decide (n=50) },n) w (.returned (.int .i64 n)) w2:=by
 rw[hb,Bool.false_or]at ht;exact⟨rfl,ev',fv',el',ht,hs.trans (dN.told hk)⟩
open Go.Lib (hid)
open Go.RowKit Go.Maps Go.Proofs.Own Go.Shelf

def qM (D:aA)(V:eB)(x:bM):aA × eB × Nat :=
 if V.br=true then (D,V,50)
 else if (eC D V.s x).2≠0 then ((eC D V.s x).1,{ V with br:=decide ((eC D V.s x).2=50) },(eC D V.s x).2)
 else if (atW V.L x.i.toNat).any (fun y=>y.t==x.t)=true then ((mS (eC D V.s x).1 V.L x.i.toNat).1,{ V with s:=x,L:=(mS (eC D V.s x).1 V.L x.i.toNat).2.1,br:=decide ((mS (eC D V.s x).1 V.L x.i.toNat).2.2=50) },(mS (eC D V.s x).1 V.L x.i.toNat).2.2)
 else ((bA (eC D V.s x).1 V.L x.i.toNat).1,{ V with s:=x,L:=(bA (eC D V.s x).1 V.L x.i.toNat).2.1,br:=decide ((bA (eC D V.s x).1 V.L x.i.toNat).2.2=50) },(bA (eC D V.s x).1 V.L x.i.toNat).2.2)
theorem dN.aHd {b:VB}{w w':World}{ev fv:Value}(h:Kept w w' (fun k=>aZ b.db b.mb b.tb k\/k=b.sb)):dN b w ev fv w' ev fv :=
 ⟨h.mono fun _ _ e=>e.elim (fun e=>.inr (.inr (.inr (.inr (.inl e))))) (fun e=>.inr (.inr (.inl e))),fun _ h=>.inl h,fun _ h=>.inl h⟩
theorem bG.off {w:World}{b:VB}{ev fv:Value}{el:bN}{D:aA}{V:eB}(h:bG w b ev fv el D V){k:Nat}(hk:w.heap.size<=k):aBM b.X b.vb b.bb b.lb b.db b.mb b.tb ev fv k :=
 ⟨fun e=>by have:=h.lt;omega,fun e=>by have:=h.book.lt;omega,fun e=>by have:=h.log.mI e;omega,h.xn k hk⟩
theorem bG.aFq {w w' w2:World}{b:VB}{ev fv ev' fv':Value}{el':bN}{D':aA}{V:eB}{s:bM}{L':aQ}{n:Nat}(hb:V.br=false)(hs:dN b w ev fv w' ev' fv')
  (ht:bG w2 b ev' fv' el' D' { V with s:=s,L:=L',br:=V.br || decide (n=50) }) (hk:Kept w' w2 (fun k=>k=b.vb)):vM b ev fv (D',{ V with s:=s,L:=L',br:=decide (n=50) },n) w (.returned (.int .i64 n)) w2:=by
 rw[hb,Bool.false_or]at ht;exact⟨rfl,ev',fv',el',ht,hs.trans (dN.told hk)⟩
theorem aE6 {lb db mb tb:Nat}{ev fv:Value}{el:bN}{D:aA}{L:aQ}{w:World}(h:bF w lb db mb tb ev fv el D L)(hl:L.last<=HX)(hn:L.es.length<=2147483648)(index:Nat){yt yk:Int}{okk:Bool}(h1:((atW L index).getD ⟨0,0,[]⟩).t=yt)(h2:((atW L index).getD ⟨0,0,[]⟩).k=yk)(h3:(atW L index).isSome=okk) :
  Calls Tryz.prog 13 #[.pointer (some ⟨lb,0,none⟩),.int .u64 index] w fun e w'=>∃a n c,e = .returned (.tuple #[.agg #[.int .u64 yt,.int .i64 yk,.slice a n c],.bool okk])/\Below w.heap.size w w':=by
 subst h1 h2 h3;exact(aE5 h hl hn index).mono fun e w' ⟨a,n,c,he,_,_,hb⟩=>⟨a,n,c,he,hb⟩
theorem aJv (o:Option cU)(xt:Int):o.any (fun y=>y.t==xt)=(o.isSome&&(o.getD ⟨0,0,[]⟩).t==xt):=by cases o<;>rfl
theorem aEo {w:World}{b:VB}{ev fv:Value}{el:bN}{D:aA}{V:eB}(h:bG w b ev fv el D V)(hg:aY D)(hst:D.steps+300<=1000000000)(hl:V.L.last<=H59)(hn:V.L.es.length<=2147483648)(n:Nat)(xt:Int)(xms:List Int)(xd:List Nat)(am ad:Option Addr)(nm cm nd cd:Nat)(hn9:(n:Int)<18446744073709551616)
  (hxk:∀w',Kept w w' (oO b ev fv)->cL w' (.agg #[.int .u64 n,.int .u64 xt,.slice am nm cm,.slice ad nd cd]) ⟨(n:Int),xt,xms,xd⟩) (hb:V.br=false)
  (he:(eC D V.s ⟨(n:Int),xt,xms,xd⟩).2=0) (hc:rJ (eC D V.s ⟨(n:Int),xt,xms,xd⟩).1 V.L) (h1:1<=(n:Int))  :
  Calls Tryz.prog 81 #[.pointer (some ⟨b.vb,0,none⟩),.agg #[.int .u64 n,.int .u64 xt,.slice am nm cm,.slice ad nd cd]] w (vM b ev fv (qM D V ⟨(n:Int),xt,xms,xd⟩) w):=by
 have HXN:Hid (¬(aZ b.db b.mb b.tb w.heap.size\/w.heap.size=b.sb)):=hid fun e=>e.elim (fun e=>by have:=h.mI (k:=w.heap.size) (.inr (.inr (.inr (.inr (.inl e)))));omega) (fun e=>by have:=h.store.lt;omega);have HH:=hid h;have HB:=hid hb;have HG:=hid hg;have HS4:Hid (D.steps+4<=1000000000):=hid (by omega);have HXK:=hid hxk;have HLL:=hid hl;have HLN:=hid hn;have HN9:=hid hn9;have hb2:¬V.br=true:=by rw[hb];decide
 have hsg:=yH V.s (⟨(n:Int),xt,xms,xd⟩:bM) hg (by omega);obtain⟨P,hinv⟩:=hc.inv;have HC:=hid hc;have HFS:Hid (V.L.fs.length<=1000000):=hid (by have:=hinv.few hsg.1;omega);have HSR:Hid ((eC D V.s ⟨(n:Int),xt,xms,xd⟩).1.steps+V.L.fs.length<=1000000000):=hid (by have:=hinv.few hsg.1;omega);have HSD:Hid ((eC D V.s ⟨(n:Int),xt,xms,xd⟩).1.steps+200<=1000000000):=hid (by omega);have HOKL:=hid (hinv.lok hsg.1).1;have HOK9:Hid ((⟨(n:Int),xt,xms,xd⟩:bM)=eO\/1<=(⟨(n:Int),xt,xms,xd⟩:bM).i):=hid (.inr h1);have HE9:=hid he;obtain⟨yt,hyt⟩:∃yt,((atW V.L n).getD ⟨0,0,[]⟩).t=yt:=⟨_,rfl⟩;obtain⟨yk,hyk⟩:∃yk,((atW V.L n).getD ⟨0,0,[]⟩).k=yk:=⟨_,rfl⟩;obtain⟨okk,hyo⟩:∃okk,(atW V.L n).isSome=okk:=⟨_,rfl⟩;have HYT:=hid hyt;have HYK:=hid hyk;have HYS:=hid hyo;have HRD:Hid ((okk&&yt==xt)=true->qM D V ⟨(n:Int),xt,xms,xd⟩=((mS (eC D V.s ⟨(n:Int),xt,xms,xd⟩).1 V.L n).1,{ V with s:=⟨(n:Int),xt,xms,xd⟩,L:=(mS (eC D V.s ⟨(n:Int),xt,xms,xd⟩).1 V.L n).2.1,br:=decide ((mS (eC D V.s ⟨(n:Int),xt,xms,xd⟩).1 V.L n).2.2=50) },(mS (eC D V.s ⟨(n:Int),xt,xms,xd⟩).1 V.L n).2.2)):=hid fun q=>by unfold qM;rw[if_neg hb2,if_neg (by rw[he];decide),if_pos (by dsimp only;rw[Int.toNat_natCast,aJv,hyt,hyo];exact q)];rfl
 have HRR:Hid ((okk&&yt==xt)=false->qM D V ⟨(n:Int),xt,xms,xd⟩=((bA (eC D V.s ⟨(n:Int),xt,xms,xd⟩).1 V.L n).1,{ V with s:=⟨(n:Int),xt,xms,xd⟩,L:=(bA (eC D V.s ⟨(n:Int),xt,xms,xd⟩).1 V.L n).2.1,br:=decide ((bA (eC D V.s ⟨(n:Int),xt,xms,xd⟩).1 V.L n).2.2=50) },(bA (eC D V.s ⟨(n:Int),xt,xms,xd⟩).1 V.L n).2.2)):=hid fun q=>by unfold qM;rw[if_neg hb2,if_neg (by rw[he];decide),if_neg (by dsimp only;rw[Int.toNat_natCast,aJv,hyt,hyo];rw[q];decide)];rfl
 clear h hg hst hl hn hxk hb hb2 hn9 he hc h1 hsg hinv hyt hyk hyo;obtain⟨vb,bb,sb,lb,db,mb,tb,xq⟩:=b;dsimp only at HXN HXK ⊢;go_enter Tryz.func81,Tryz.ntmps81;go_wp2_with fail;generalize hW1:World.alloc w _=W1;have B1:Hid (Below w.heap.size w W1):=hid (by subst hW1;exact(Below.refl _ _).alloc (Nat.le_refl _) _);have X1:Hid (bR W1 w.heap.size n xt (.slice am nm cm) (.slice ad nd cd)):=hid (by subst hW1;exact bR.box w _ _ _ _);have H1:=hid (HH.out.below B1.out);clear hW1;refine(zB H1.out HB.out).mono ?_;rintro e w1 ⟨rfl,rfl⟩;dsimp only;have ST:=aR.from W1;have DR:Hid (Below W1.heap.size W1 W1.drew):=hid (Below.refl W1.heap.size W1).drew;have BW:Hid (Below w.heap.size w W1.drew):=hid (B1.out.trans (DR.out.mono B1.out.size));have HD:Hid (aG W1.drew db mb tb D):=hid (H1.out.below DR.out).log.dZ;have HQ9:Hid (∀k,W1.drew.heap.size<=k->aBM xq vb bb lb db mb tb ev fv k):=hid fun k hk=>(H1.out.below DR.out).off hk;have HST9:Hid (cQ (aBM xq vb bb lb db mb tb ev fv) W1.drew sb db mb tb V.s):=hid (H1.out.below DR.out).store;have HX9:Hid (cL W1.drew (.agg #[.int .u64 n,.int .u64 xt,.slice am nm cm,.slice ad nd cd]) ⟨(n:Int),xt,xms,xd⟩):=hid ((HXK.out w (Kept.refl _ _)).below BW.out);have HXK9:Hid (∀w',Kept W1.drew w' (aZ db mb tb)->cL w' (.agg #[.int .u64 n,.int .u64 xt,.slice am nm cm,.slice ad nd cd]) ⟨(n:Int),xt,xms,xd⟩):=hid fun w' hk=>HXK.out w' ((Kept.aL BW.out (S:=oO ⟨vb,bb,sb,lb,db,mb,tb,xq⟩ ev fv) fun k h1 h2=>by omega).trans (hk.mono fun _ _ e=>.inr (.inr (.inr (.inr (.inl e))))));go_wp2_with fail;refine aU [0,1,3,7,15,0,63,127] 0 (fun w'=>Below W1.heap.size W1 w') (by kernel_rfl) ?_;refine aB [0,1,2,3,4,5] (by kernel_rfl) (L:=bm 8 63) (by kernel_rfl) (f':=2) rfl (fun _ _ _ _ h=>h) (fun w o h=>ST.alloc h o) (.inr (by first|exact Below.refl _ _|exact(Below.refl _ _).drew)) ?_;simp only[sF,sL]
 iterate 6 (first|(refine aW _ (by rfl) (fun w' hs=>by have c1:=(H1.out.below hs).c1;obtain⟨x0,x1,x2,x3,_,_,_,_⟩:=X1.out.below hs;go_simp;try with_reducible rfl) rfl ?_;simp only[Act.put,sA])|(refine aC _ (by rfl) (fun w'=>by go_simp;try with_reducible rfl) ?_;simp only[Act.put,sA]))
 refine aI ?_;refine aM 6 (by kernel_rfl) (L:=bm 8 127) (by kernel_rfl) ?_;simp only[sL];go_wp2_with fail;refine(aEa (aBM xq vb bb lb db mb tb ev fv) sb db mb tb V.s ⟨(n:Int),xt,xms,xd⟩ D _ W1.drew HQ9.out HST9.out HX9.out HXK9.out HD.out HG.out HS4.out).mono ?_;rintro e w2 ⟨rfl,hd2,hs2,hk2⟩;rw[HE9.out]at hs2 ⊢;rw[if_pos rfl]at hs2;have H2:Hid (bG w2 ⟨vb,bb,sb,lb,db,mb,tb,xq⟩ ev fv el (eC D V.s ⟨(n:Int),xt,xms,xd⟩).1 { V with s:=⟨(n:Int),xt,xms,xd⟩ }):=hid ((H1.out.below DR.out).aHd hd2 hs2 hk2 HOK9.out);have VS:Hid (dN ⟨vb,bb,sb,lb,db,mb,tb,xq⟩ w ev fv w2 ev fv):=hid ((dN.below (B1.out.trans (DR.out.mono B1.out.size))).trans (dN.aHd hk2));have X2:=hid ((X1.out.below DR.out).kept hk2 HXN.out);clear hd2 hs2 hk2;dsimp only;go_wp2_with fail;refine aH nofun ?_;refine aB [7] (by kernel_rfl) (L:=bm 8 255) (by kernel_rfl) (f':=0) rfl (fun _ _ _ _ h=>h) (fun w o h=>ST.alloc h o) (.inl (by kernel_rfl)) ?_;simp only[sF,sL]
 iterate 1 (refine aC _ (by rfl) (fun w'=>by go_simp;try with_reducible rfl) ?_;simp only[Act.put,sA])
 refine aI ?_;refine bC (by kernel_rfl) ?_;have ST2:=aR.from w2;have c2:=H2.out.c2;dsimp only at c2;go_wp2_with fail;clear c2;refine aU [0,1,3,7,15,0,32,127,255,511,511,0,3071,8191] 0 (fun w'=>Below w2.heap.size w2 w') (by kernel_rfl) ?_;refine aB [0,1,2,3,4,5,6] (by kernel_rfl) (L:=bm 14 127) (by kernel_rfl) (f':=7) rfl (fun _ _ _ _ h=>h) (fun w o h=>ST2.alloc h o) (.inr (by first|exact Below.refl _ _|exact(Below.refl _ _).drew)) ?_;simp only[sF,sL]
 iterate 7 (first|(refine aW _ (by rfl) (fun w' hs=>by have c2:=(H2.out.below hs).c2;obtain⟨x0,x1,x2,x3,_,_,_,_⟩:=X2.out.below hs;go_simp;try with_reducible rfl) rfl ?_;simp only[Act.put,sA])|(refine aC _ (by rfl) (fun w'=>by go_simp;try with_reducible rfl) ?_;simp only[Act.put,sA]))
 refine aI ?_;refine aAR 7 11 (by kernel_rfl) (Lj:=bm 14 255) (Lk:=bm 14 2175) (by kernel_rfl) (by kernel_rfl) ?_ ?_
 ·simp only[sL];go_wp2_with fail;refine(aE6 (H2.out.below ((Below.refl w2.heap.size w2).drew)).log (aJ3 HLL.out) HLN.out n HYT.out HYK.out HYS.out).mono ?_;rintro e w3 ⟨a,en,ec,rfl,hb3⟩;have B3:Hid (Below w2.heap.size w2 w3):=hid (((Below.refl w2.heap.size w2).drew).trans (hb3.mono ((Below.refl w2.heap.size w2).drew).size));clear hb3;go_wp2_with fail;refine aH nofun ?_;refine aB [8,9,10] (by kernel_rfl) (L:=bm 14 2047) (by kernel_rfl) (f':=3) rfl (fun _ _ _ _ h=>h) (fun w o h=>ST2.alloc h o) (.inl (by kernel_rfl)) ?_;simp only[sF,sL]
  iterate 3 (refine aC _ (by rfl) (fun w'=>by go_simp;try with_reducible rfl) ?_;simp only[Act.put,sA])
  refine aI ?_;refine aM 11 (by kernel_rfl) (L:=bm 14 4095) (by kernel_rfl) ?_;simp only[sL];go_wp2_with fail;have E4:Hid (EC (w3.alloc (.cells #[.int .u64 0,.int .i64 0,.slice none 0 0] 38)) w3.heap.size 0 0 (.slice none 0 0)):=hid (EC.box w3);have LB:Hid (w2.heap.size<=w3.heap.size):=hid B3.out.size;have B4:Hid (Below w2.heap.size w2 (w3.alloc (.cells #[.int .u64 0,.int .i64 0,.slice none 0 0] 38))):=hid (B3.out.alloc B3.out.size _);generalize World.alloc w3 _=W4 at *
  generalize hEB:w3.heap.size=eb at *
  refine aH nofun ?_;refine aM 12 (by kernel_rfl) (L:=bm 14 8191) (by kernel_rfl) ?_;simp only[sL];obtain⟨q0,q1,q2,g0,g1,g2⟩:=E4.out;go_wp2_with fail;have E5:Hid (EC _ _ yt yk (.slice a en ec)):=hid ((E4.out.set yt yk).put (.slice a en ec));have B5:Hid (Below w2.heap.size w2 _):=hid (B4.out.trans ((EC.oH W4 eb (.int .u64 yt) (.int .i64 yk) (.slice a en ec)).below B4.out.size fun k e=>by have:=LB.out;omega));generalize World.setCell _ _ _=W5 at *
  clear q0 q1 q2 g0 g1 g2;refine aH nofun ?_;refine aB [13] (by kernel_rfl) (L:=bm 14 16383) (by kernel_rfl) (f':=0) rfl (fun _ _ _ _ h=>h) (fun w o h=>ST2.alloc h o) (.inl (by kernel_rfl)) ?_;simp only[sF,sL]
  iterate 1 (refine aC _ (by rfl) (fun w'=>by go_simp;try with_reducible rfl) ?_;simp only[Act.put,sA])
  refine aI ?_;refine bC (by kernel_rfl) ?_;have H5:=hid (H2.out.below B5.out);have VS5:Hid (dN ⟨vb,bb,sb,lb,db,mb,tb,xq⟩ w ev fv W5 ev fv):=hid (VS.out.trans (dN.below B5.out));have c2:=H5.out.c2;obtain⟨x0,x1,x2,x3,_,_,_,_⟩:=X2.out.below B5.out;obtain⟨q0,_,_,_,_,_⟩:=E5.out;dsimp only at c2;clear E4 LB B4 ST ST2;cases okk with
  | false =>
   have HR:=hid (HRR.out rfl);go_wp2_with fail;refine(pL H5.out.log HC.out.fX HOKL.out HSR.out HFS.out n).mono ?_;rintro e w6 ⟨rfl,ev6,fv6,el6,hl6,hs6⟩;have H6:=hid (H5.out.mG hl6 hs6);have VS6:=hid (VS5.out.trans (dN.mH (b:=⟨vb,bb,sb,lb,db,mb,tb,xq⟩) hs6));clear hl6 hs6 c2 x0 x1 x2 x3 q0;dsimp only;go_wp2_with fail;refine(lJ H6.out _).mono ?_;rintro e w7 ⟨rfl,hv7,hk7⟩;have FIN:=hid (bG.aFq HB.out VS6.out hv7 hk7);clear hv7 hk7;dsimp only;go_wp2_with fail;go_ret;rw[HR.out];exact FIN.out
  | true =>
   cases hx:(yt==xt) with
   | false =>
    have HR:=hid (HRR.out hx);go_wp2_with fail;refine(pL H5.out.log HC.out.fX HOKL.out HSR.out HFS.out n).mono ?_;rintro e w6 ⟨rfl,ev6,fv6,el6,hl6,hs6⟩;have H6:=hid (H5.out.mG hl6 hs6);have VS6:=hid (VS5.out.trans (dN.mH (b:=⟨vb,bb,sb,lb,db,mb,tb,xq⟩) hs6));clear hl6 hs6 c2 x0 x1 x2 x3 q0;dsimp only;go_wp2_with fail;refine(lJ H6.out _).mono ?_;rintro e w7 ⟨rfl,hv7,hk7⟩;have FIN:=hid (bG.aFq HB.out VS6.out hv7 hk7);clear hv7 hk7;dsimp only;go_wp2_with fail;go_ret;rw[HR.out];exact FIN.out
   | true =>
    have HR:=hid (HRD.out hx);go_wp2_with fail;refine(aJI H5.out.log HC.out HSD.out n HN9.out).mono ?_;rintro e w6 ⟨rfl,ev6,fv6,el6,hl6,hs6⟩;have H6:=hid (H5.out.mG hl6 hs6);have VS6:=hid (VS5.out.trans (dN.mH (b:=⟨vb,bb,sb,lb,db,mb,tb,xq⟩) hs6));clear hl6 hs6 c2 x0 x1 x2 x3 q0;dsimp only;go_wp2_with fail;refine(lJ H6.out _).mono ?_;rintro e w7 ⟨rfl,hv7,hk7⟩;have FIN:=hid (bG.aFq HB.out VS6.out hv7 hk7);clear hv7 hk7;dsimp only;go_wp2_with fail;go_ret;rw[HR.out];exact FIN.out
 ·simp only[sL];go_wp2_with fail;have E3:Hid (EC (w2.alloc (.cells #[.int .u64 0,.int .i64 0,.slice none 0 0] 38)).drew w2.heap.size 0 0 (.slice none 0 0)):=hid ((EC.box w2).below (Below.refl _ _).drew);have B4:Hid (Below w2.heap.size w2 (w2.alloc (.cells #[.int .u64 0,.int .i64 0,.slice none 0 0] 38)).drew):=hid ((Below.refl w2.heap.size w2).alloc (Nat.le_refl _) _).drew;generalize World.alloc w2 _=W3 at *
  refine aH nofun ?_;refine aM 7 (by kernel_rfl) (L:=bm 14 2303) (by kernel_rfl) ?_;simp only[sL];go_wp2_with fail;refine(aE6 (H2.out.below B4.out).log (aJ3 HLL.out) HLN.out n HYT.out HYK.out HYS.out).mono ?_;rintro e w3 ⟨a,en,ec,rfl,hb3⟩;have B3:Hid (Below w2.heap.size w2 w3):=hid (B4.out.trans (hb3.mono B4.out.size));have E4:=hid (E3.out.below hb3);have LB:=hid (Nat.le_refl w2.heap.size);clear hb3;go_wp2_with fail;refine aH nofun ?_;refine aB [8,9,10] (by kernel_rfl) (L:=bm 14 4095) (by kernel_rfl) (f':=2) rfl (fun _ _ _ _ h=>h) (fun w o h=>ST2.alloc h o) (.inl (by kernel_rfl)) ?_;simp only[sF,sL]
  iterate 3 (refine aC _ (by rfl) (fun w'=>by go_simp;try with_reducible rfl) ?_;simp only[Act.put,sA])
  refine aI ?_;refine aM 12 (by kernel_rfl) (L:=bm 14 8191) (by kernel_rfl) ?_;simp only[sL];obtain⟨q0,q1,q2,g0,g1,g2⟩:=E4.out;go_wp2_with fail;have E5:Hid (EC _ _ yt yk (.slice a en ec)):=hid ((E4.out.set yt yk).put (.slice a en ec));have B5:Hid (Below w2.heap.size w2 _):=hid (B3.out.trans ((EC.oH w3 w2.heap.size (.int .u64 yt) (.int .i64 yk) (.slice a en ec)).below B3.out.size fun k e=>by omega));generalize World.setCell _ _ _=W5 at *
  clear q0 q1 q2 g0 g1 g2;refine aH nofun ?_;refine aB [13] (by kernel_rfl) (L:=bm 14 16383) (by kernel_rfl) (f':=0) rfl (fun _ _ _ _ h=>h) (fun w o h=>ST2.alloc h o) (.inl (by kernel_rfl)) ?_;simp only[sF,sL]
  iterate 1 (refine aC _ (by rfl) (fun w'=>by go_simp;try with_reducible rfl) ?_;simp only[Act.put,sA])
  refine aI ?_;refine bC (by kernel_rfl) ?_;have H5:=hid (H2.out.below B5.out);have VS5:Hid (dN ⟨vb,bb,sb,lb,db,mb,tb,xq⟩ w ev fv W5 ev fv):=hid (VS.out.trans (dN.below B5.out));have c2:=H5.out.c2;obtain⟨x0,x1,x2,x3,_,_,_,_⟩:=X2.out.below B5.out;obtain⟨q0,_,_,_,_,_⟩:=E5.out;dsimp only at c2;clear E4 LB B4 ST ST2;cases okk with
  | false =>
   have HR:=hid (HRR.out rfl);go_wp2_with fail;refine(pL H5.out.log HC.out.fX HOKL.out HSR.out HFS.out n).mono ?_;rintro e w6 ⟨rfl,ev6,fv6,el6,hl6,hs6⟩;have H6:=hid (H5.out.mG hl6 hs6);have VS6:=hid (VS5.out.trans (dN.mH (b:=⟨vb,bb,sb,lb,db,mb,tb,xq⟩) hs6));clear hl6 hs6 c2 x0 x1 x2 x3 q0;dsimp only;go_wp2_with fail;refine(lJ H6.out _).mono ?_;rintro e w7 ⟨rfl,hv7,hk7⟩;have FIN:=hid (bG.aFq HB.out VS6.out hv7 hk7);clear hv7 hk7;dsimp only;go_wp2_with fail;go_ret;rw[HR.out];exact FIN.out
  | true =>
   cases hx:(yt==xt) with
   | false =>
    have HR:=hid (HRR.out hx);go_wp2_with fail;refine(pL H5.out.log HC.out.fX HOKL.out HSR.out HFS.out n).mono ?_;rintro e w6 ⟨rfl,ev6,fv6,el6,hl6,hs6⟩;have H6:=hid (H5.out.mG hl6 hs6);have VS6:=hid (VS5.out.trans (dN.mH (b:=⟨vb,bb,sb,lb,db,mb,tb,xq⟩) hs6));clear hl6 hs6 c2 x0 x1 x2 x3 q0;dsimp only;go_wp2_with fail;refine(lJ H6.out _).mono ?_;rintro e w7 ⟨rfl,hv7,hk7⟩;have FIN:=hid (bG.aFq HB.out VS6.out hv7 hk7);clear hv7 hk7;dsimp only;go_wp2_with fail;go_ret;rw[HR.out];exact FIN.out
   | true =>
    have HR:=hid (HRD.out hx);go_wp2_with fail;refine(aJI H5.out.log HC.out HSD.out n HN9.out).mono ?_;rintro e w6 ⟨rfl,ev6,fv6,el6,hl6,hs6⟩;have H6:=hid (H5.out.mG hl6 hs6);have VS6:=hid (VS5.out.trans (dN.mH (b:=⟨vb,bb,sb,lb,db,mb,tb,xq⟩) hs6));clear hl6 hs6 c2 x0 x1 x2 x3 q0;dsimp only;go_wp2_with fail;refine(lJ H6.out _).mono ?_;rintro e w7 ⟨rfl,hv7,hk7⟩;have FIN:=hid (bG.aFq HB.out VS6.out hv7 hk7);clear hv7 hk7;dsimp only;go_wp2_with fail;go_ret;rw[HR.out];exact FIN.out

def iS (V:eB)(n:Nat):Int × Bool:=if V.s.i=n then (V.s.t,true) else (((atW V.L n).getD ⟨0,0,[]⟩).t,(atW V.L n).isSome)
theorem aDb {w:World}{b:VB}{ev fv:Value}{el:bN}{D:aA}{V:eB}(h:bG w b ev fv el D V)(hl:V.L.last<=HX)(hn:V.L.es.length<=2147483648)(n:Nat) :
  Calls Tryz.prog 48 #[.pointer (some ⟨b.vb,0,none⟩),.int .u64 n] w fun e w'=>e = .returned (.tuple #[.int .u64 (iS V n).1,.bool (iS V n).2])/\Below w.heap.size w w':=by
 have HH:=hid h;have HLL:=hid hl;have HN:=hid hn;obtain⟨m,hm⟩:∃m:Int,(if V.br then (50:Int) else 0)=m:=⟨_,rfl⟩;have h1:(m==1)=false:=by subst hm;cases V.br<;>rfl
 have HM:=hid hm;by_cases hc:V.s.i=n
 ·have HT:Hid (iS V n=(V.s.t,true)):=hid (by unfold iS;rw[if_pos hc]);have hx:(V.s.i==(n:Int))=true:=beq_iff_eq.2 hc;clear h hl hn hc hm;obtain⟨vb,bb,sb,lb,db,mb,tb,xq⟩:=b;simp only;go_enter Tryz.func48,Tryz.ntmps48;go_wp2_with fail;refine(aBA HH.out).mono ?_;rintro e w1 ⟨rfl,rfl⟩;rw[HM.out];dsimp only;go_wp2_with fail;refine(vZ HH.out).mono ?_;rintro e w1 ⟨i,t,mv,dv,rfl,hs,hb1⟩;obtain⟨rfl,rfl,⟨am,nm,cm,rfl⟩,⟨ad,nd,cd,rfl⟩⟩:=hs.tV;have B1:=hid hb1;clear hb1 hs;dsimp only;go_wp2_with fail;refine bodyPost_ret (v:=.tuple #[.int .u64 V.s.t,.bool true]) (by simp[results,Tryz.results48,go_sem]) rfl ?_;rw[HT.out];exact⟨rfl,B1.out.alloc B1.out.size _⟩
 ·have HT:Hid (iS V n=(((atW V.L n).getD ⟨0,0,[]⟩).t,(atW V.L n).isSome)):=hid (by unfold iS;rw[if_neg hc]);have hx:(V.s.i==(n:Int))=false:=beq_eq_false_iff_ne.2 hc;clear h hl hn hc hm;obtain⟨vb,bb,sb,lb,db,mb,tb,xq⟩:=b;simp only;go_enter Tryz.func48,Tryz.ntmps48;go_wp2_with fail;refine(aBA HH.out).mono ?_;rintro e w1 ⟨rfl,rfl⟩;rw[HM.out];dsimp only;go_wp2_with fail;refine(vZ HH.out).mono ?_;rintro e w1 ⟨i,t,mv,dv,rfl,hs,hb1⟩;obtain⟨rfl,rfl,⟨am,nm,cm,rfl⟩,⟨ad,nd,cd,rfl⟩⟩:=hs.tV;have B1:=hid hb1;clear hb1 hs;dsimp only;go_wp2_with fail;generalize hW2:World.alloc w1 _=W2;have B2:Hid (Below w.heap.size w W2):=hid (by subst hW2;exact B1.out.alloc B1.out.size _);clear hW2;refine(aEk (HH.out.below B2.out) HLL.out HN.out n).mono ?_;rintro e w3 ⟨a,en,ec,rfl,_,_,hb3⟩;have B3:Hid (Below w.heap.size w w3):=hid (B2.out.trans (hb3.mono B2.out.size));clear hb3;dsimp only;go_wp2_with fail;refine bodyPost_ret (v:=.tuple #[.int .u64 ((atW V.L n).getD ⟨0,0,[]⟩).t,.bool (atW V.L n).isSome]) (by simp[results,Tryz.results48,go_sem]) rfl ?_;rw[HT.out];exact⟨rfl,B3.out.alloc B3.out.size _⟩

structure VC (w:World)(vb:Nat)(p0 p1 p2:Option Addr):Prop where
 c0:w.cell? ⟨vb,0,none⟩=some (.pointer p0)
 c1:w.cell? ⟨vb,1,none⟩=some (.pointer p1)
 c2:w.cell? ⟨vb,2,none⟩=some (.pointer p2)
 c3:w.cell? ⟨vb,3,none⟩=some (.bool false)
 f0:w.frozen? ⟨vb,0,none⟩=false
 f1:w.frozen? ⟨vb,1,none⟩=false
 f2:w.frozen? ⟨vb,2,none⟩=false
 f3:w.frozen? ⟨vb,3,none⟩=false
 n8:iF w vb
theorem VC.lt {w:World}{vb:Nat}{p0 p1 p2:Option Addr}(h:VC w vb p0 p1 p2):vb<w.heap.size:=World.block_lt_of_cell? _ _ h.c0
theorem VC.kept {w w':World}{vb:Nat}{p0 p1 p2:Option Addr}{S:Nat->Prop}(h:VC w vb p0 p1 p2)(hk:Kept w w' S)(hs:¬S vb):VC w' vb p0 p1 p2 :=
 have hl:=h.lt
 ⟨hk.cell h.c0 hs,hk.cell h.c1 hs,hk.cell h.c2 hs,hk.cell h.c3 hs,(hk.frozen (a:=⟨vb,0,none⟩) hl hs).trans h.f0,(hk.frozen (a:=⟨vb,1,none⟩) hl hs).trans h.f1,(hk.frozen (a:=⟨vb,2,none⟩) hl hs).trans h.f2,(hk.frozen (a:=⟨vb,3,none⟩) hl hs).trans h.f3,h.n8.kept hk hl hs⟩
theorem VC.below {w w':World}{vb:Nat}{p0 p1 p2:Option Addr}(h:VC w vb p0 p1 p2)(hb:Below w.heap.size w w'):VC w' vb p0 p1 p2:=h.kept (Kept.aL hb (S:=fun _=>False) fun k h1 h2=>by omega) id
theorem VC.new (w:World):VC (w.alloc (.cells #[.pointer none,.pointer none,.pointer none,.bool false] 111)) w.heap.size none none none :=
 ⟨by go_cell,by go_cell,by go_cell,by go_cell,by simp,by simp,by simp,by simp,iF.alloc (by simp)⟩
theorem VC.sJ {w:World}{vb:Nat}{p0 p1 p2:Option Addr}(h:VC w vb p0 p1 p2)(q:Addr):VC (w.setCell ⟨vb,0,none⟩ (.pointer (some q))) vb (some q) p1 p2 :=
 ⟨css h.c0,by rw[cso (by simp)];exact h.c1,by rw[cso (by simp)];exact h.c2,by rw[cso (by simp)];exact h.c3,by rw[fsc];exact h.f0,by rw[fsc];exact h.f1,by rw[fsc];exact h.f2,by rw[fsc];exact h.f3,h.n8.set _ h.c0 (fun y e=>by cases e)⟩
theorem VC.pE {w:World}{vb:Nat}{p0 p1 p2:Option Addr}(h:VC w vb p0 p1 p2)(q:Addr):VC (w.setCell ⟨vb,1,none⟩ (.pointer (some q))) vb p0 (some q) p2 :=
 ⟨by rw[cso (by simp)];exact h.c0,css h.c1,by rw[cso (by simp)];exact h.c2,by rw[cso (by simp)];exact h.c3,by rw[fsc];exact h.f0,by rw[fsc];exact h.f1,by rw[fsc];exact h.f2,by rw[fsc];exact h.f3,h.n8.set _ h.c1 (fun y e=>by cases e)⟩
theorem VC.iO {w:World}{vb:Nat}{p0 p1 p2:Option Addr}(h:VC w vb p0 p1 p2)(q:Addr):VC (w.setCell ⟨vb,2,none⟩ (.pointer (some q))) vb p0 p1 (some q) :=
 ⟨by rw[cso (by simp)];exact h.c0,by rw[cso (by simp)];exact h.c1,css h.c2,by rw[cso (by simp)];exact h.c3,by rw[fsc];exact h.f0,by rw[fsc];exact h.f1,by rw[fsc];exact h.f2,by rw[fsc];exact h.f3,h.n8.set _ h.c2 (fun y e=>by cases e)⟩
theorem bG.make {w:World}{vb bb sb lb db mb tb n m:Nat}{ev fv:Value}{el:bN}{D:aA}{L:aQ}{s:bM}{t v:Int}(hv:VC w vb (some ⟨bb,0,none⟩) (some ⟨sb,0,none⟩) (some ⟨lb,0,none⟩))(hb:fB w bb db t v)(hs:cQ (fun k=>n<=k/\k<m) w sb db mb tb s)(hl:bF w lb db mb tb ev fv el D L)
  (h0:∀k,aZ db mb tb k->k<vb) (h1:vb<bb) (h2:bb<n) (h3:n<=sb) (h4:sb<m) (h5:m<=lb) (h6:∀k,ev.ownBlock=some k->m<=k) (h7:∀k,fv.ownBlock=some k->m<=k) (hok:s=eO\/1<=s.i):bG w ⟨vb,bb,sb,lb,db,mb,tb,fun k=>vb<=k⟩ ev fv el D ⟨t,v,s,L,false⟩:=by
 have hn:∀k,vb<=k->k<m -> ¬mE lb db mb tb ev fv k:=fun k q1 q2 e=>by
  rcases e with e|e|e|e
  ·omega
  ·have:=h0 k e;omega
  ·have:=h6 k e;omega
  ·have:=h7 k e;omega
 exact⟨hv.c0,hv.c1,hv.c2,hv.c3,hv.f3,hv.n8,hb,hs.jU fun k q _=>⟨by dsimp only;omega,by dsimp only;omega,hn k (by omega) (by omega),by dsimp only;omega⟩,hl,hn vb (Nat.le_refl _) (by omega),⟨by dsimp only;omega,hn bb (by omega) (by omega)⟩,⟨by dsimp only;omega,by dsimp only;omega,hn sb (by omega) (by omega)⟩,hok,fun k q=>by have:=hv.lt;dsimp only;omega⟩
def aDm (db mb tb:Nat)(D:aA)(V:eB)(w:World):Ending->World->Prop:=fun e w'=>∃(b:VB) (ev fv:Value) (el:bN),e = .returned (.tuple #[.pointer (some ⟨b.vb,0,none⟩),.int .i64 0])/\b.db=db/\b.mb=mb/\b.tb=tb/\bG w' b ev fv el D V/\Kept w w' (aZ db mb tb)/\(∀k,oO b ev fv k->aZ db mb tb k\/w.heap.size<=k) /\ ∀k,b.X k->w.heap.size<=k
theorem aIc {db mb tb:Nat}{D:aA}{w:World}(h:aG w db mb tb D)(hg:aY D)(hst:D.steps+1000<=1000000000)(n:Nat){D3:aA}{L:aQ}(h3:dP D n=(D3,some L,0)) :
  Calls Tryz.prog 19 #[.pointer (some ⟨db,0,none⟩),.int .u64 n] w fun E w'=>Kept w w' (aZ db mb tb) /\ ∃lb ev fv el,E = .returned (.tuple #[.pointer (some ⟨lb,0,none⟩),.int .i64 0])/\bF w' lb db mb tb ev fv el D3 L/\w.heap.size<=lb/\(∀b,ev.ownBlock=some b->w.heap.size<=b) /\ ∀b,fv.ownBlock=some b->w.heap.size<=b:=by
 have hWO:Calls Tryz.prog 19 #[.pointer (some ⟨db,0,none⟩),.int .u64 n] w (aA4 db mb tb (dP D n) w):=by
  by_cases he:D.down=true\/H59<=n
  ·exact vF h n he
  ·exact zD h hg hst n (fun q=>he (.inl q)) (fun q=>he (.inr q))
 rw[h3]at hWO;refine hWO.mono ?_;rintro E w' ⟨_,hk,_,hs⟩;obtain⟨lb,ev,fv,el,e,hl,q⟩:=hs L rfl;exact⟨hk,lb,ev,fv,el,e,hl,q⟩
theorem rG {db mb tb:Nat}{D:aA}{w:World}(hd:aG w db mb tb D)(hg:aY D)(hst:D.steps+2000<=1000000000){D1 D3:aA}{L:aQ}{n:Nat}(h1:aT D=(D1,0))(h2:cN D1=0)(hn:(cT D1).i=n)
  (h3:dP (bD D1).1 n=(D3,some L,0)) (hl:L.last<=HX) (hes:L.es.length<=2147483648)
  {D4:aA} {L4:aQ} (hno:(∀y,atW L n=some y->y.t=(cT D1).t)->D4=D3/\L4=L) (hyes:∀y,atW L n=some y->y.t≠(cT D1).t->bA D3 L n=(D4,L4,0)/\aY D3/\LOk L/\D3.steps+L.fs.length<=1000000000/\L.fs.length<=1000000) :
  Calls Tryz.prog 41 #[.pointer (some ⟨db,0,none⟩)] w (aDm db mb tb D4 ⟨(cO D).t,(cO D).v,cT D1,L4,false⟩ w):=by
 have hg1:=mC hg (by omega);rw[h1]at hg1;dsimp only at hg1;have hg2:=kZ hg1.1 (by omega);have HD:=hid hd;have HG:=hid hg;have HG1:=hid hg1.1;have HG2:=hid hg2.1;have HS:Hid (D.steps+2<=1000000000):=hid (by omega);have HS2:Hid ((bD D1).1.steps+1000<=1000000000):=hid (by omega);have HE1:=hid h1;have HE2:=hid h2;have HE3:=hid h3;have HN:=hid hn;have HLL:=hid hl;have HLN:=hid hes;obtain⟨xt,hxt⟩:∃xt,(cT D1).t=xt:=⟨_,rfl⟩;have HT:=hid hxt;have HV:Hid (¬aZ db mb tb w.heap.size):=hid fun e=>by have:=hd.lt3 _ e;omega
 have HO3:Hid (∀k,aZ db mb tb k->k<w.heap.size):=hid hd.lt3;obtain⟨yt,hyt⟩:∃yt,((atW L n).getD ⟨0,0,[]⟩).t=yt:=⟨_,rfl⟩;obtain⟨yk,hyk⟩:∃yk,((atW L n).getD ⟨0,0,[]⟩).k=yk:=⟨_,rfl⟩;obtain⟨okk,hyo⟩:∃okk,(atW L n).isSome=okk:=⟨_,rfl⟩;have HYT:=hid hyt;have HYK:=hid hyk;have HYS:=hid hyo;have HNO:Hid ((okk=true->(yt != xt)=false)->D4=D3/\L4=L):=hid fun q=>hno fun y hy=>by
  rw[hy]at hyt hyo;have:=q hyo.symm;rw[hxt,<- bne_eq_false_iff_eq,<- this,<- hyt];rfl
 have HYES:Hid (okk=true->(yt != xt)=true->bA D3 L n=(D4,L4,0)/\aY D3/\LOk L/\D3.steps+L.fs.length<=1000000000/\L.fs.length<=1000000):=hid fun q q2=>by
  obtain⟨y,hy⟩:=Option.isSome_iff_exists.1 (hyo.trans q);rw[hy]at hyt;exact hyes y hy (by rw[hxt,show y.t=yt from hyt];exact bne_iff_ne.1 q2)
 clear hd hg hst h1 h2 h3 hn hl hes hg1 hg2 hxt hno hyes hyt hyk hyo;go_enter Tryz.func41,Tryz.ntmps41;go_wp2_with fail;generalize hW1:World.alloc w _=W1;have B1:Hid (Below w.heap.size w W1):=hid (by subst hW1;exact(Below.refl _ _).alloc (Nat.le_refl _) _);have V1:Hid (VC W1 w.heap.size none none none):=hid (by subst hW1;exact VC.new w);have HD1:=hid (HD.out.below B1.out);have K1:Hid (Kept w W1 (aZ db mb tb)):=hid (Kept.aL B1.out fun k h1 h2=>by omega);clear hW1;refine(uB db mb tb D W1 HD1.out HG.out HS.out).mono ?_;rintro e w2 ⟨_,hok,hd2,hk2⟩;rw[HE1.out]at hok hd2;obtain⟨bb,rfl,hbk,hbb⟩:=hok rfl;have V2:=hid (V1.out.kept hk2 HV.out);have HB2:=hid hbk;have HD2:=hid hd2;have K2:=hid (K1.out.trans hk2);have HBB:Hid (w.heap.size<bb):=hid (Nat.lt_of_lt_of_le V1.out.lt hbb);clear hok hd2 hk2 hbk hbb HD1;obtain⟨v0,v1,v2,v3,f0,f1,f2,f3,_⟩:=V2.out;dsimp only;go_wp2_with fail;generalize hW3:World.setCell w2 _ _=W3;have KS3:Hid (Kept w2 W3 (fun k=>k=w.heap.size)):=hid (by subst hW3;exact Kept.setCell w2 ⟨w.heap.size,0,none⟩ _);have V3:Hid (VC W3 w.heap.size (some ⟨bb,0,none⟩) none none):=hid (by subst hW3;exact V2.out.sJ _);have HD3:Hid (aG W3 db mb tb D1):=hid (HD2.out.cR KS3.out (fun k h1 h2=>HV.out (h2 ▸ h1)) (fun k e j y hy=>by subst e;exact V2.out.n8 j y hy));have HB3:Hid (fB W3 bb db (cO D).t (cO D).v):=hid (HB2.out.kept KS3.out (fun e=>by have:=HBB.out;omega));have K3:=hid (K2.out.eU KS3.out (Nat.le_refl _));clear hW3 v0 v1 v2 v3 f0 f1 f2 f3 HD2 HB2 KS3 K2;refine(aAO (fun k=>W3.heap.size<=k) db mb tb D1 W3 (fun b h=>h) HD3.out HG1.out HE2.out).mono ?_;rintro e w4 ⟨_,hok,hd4,hk4⟩;obtain⟨sb,rfl,hst,hsb⟩:=hok HE2.out;have V4:=hid (V3.out.kept hk4 HV.out);have HST4:=hid hst;have HD4:=hid hd4;have HB4:=hid (HB3.out.kept hk4 (fun e=>by have:=HO3.out _ e;have:=HBB.out;omega));have K4:=hid (K3.out.trans hk4);have HSB:Hid (W3.heap.size<=sb):=hid hsb;have SZ3:Hid (w.heap.size<W3.heap.size/\bb<W3.heap.size):=hid ⟨V3.out.lt,HB3.out.lt⟩;clear hok hd4 hk4 hst hsb;obtain⟨v0,v1,v2,v3,f0,f1,f2,f3,_⟩:=V4.out;dsimp only;go_wp2_with fail;generalize hW5:World.setCell w4 _ _=W5';have KS5:Hid (Kept w4 W5' (fun k=>k=w.heap.size)):=hid (by subst hW5;exact Kept.setCell w4 ⟨w.heap.size,1,none⟩ _);have V5:Hid (VC W5' w.heap.size (some ⟨bb,0,none⟩) (some ⟨sb,0,none⟩) none):=hid (by subst hW5;exact V4.out.pE _);have HD5:Hid (aG W5' db mb tb (bD D1).1):=hid (HD4.out.cR KS5.out (fun k h1 h2=>HV.out (h2 ▸ h1)) (fun k e j y hy=>by subst e;exact V4.out.n8 j y hy));have HB5:Hid (fB W5' bb db (cO D).t (cO D).v):=hid (HB4.out.kept KS5.out (fun e=>by have:=HBB.out;omega));have HST5:Hid (cQ (fun k=>W3.heap.size<=k) W5' sb db mb tb (cT D1)):=hid (HST4.out.nM KS5.out (fun e=>by have:=HSB.out;have:=SZ3.out;omega) (fun k e=>.inr fun q=>by have:=SZ3.out;omega));have K5:=hid (K4.out.eU KS5.out (Nat.le_refl _));clear hW5 v0 v1 v2 v3 f0 f1 f2 f3 HD4 HB4 HST4 KS5 K4 HD3 HB3 K3;refine(yN (some ⟨sb,0,none⟩) db mb tb (cT D1) W5' (.inr ⟨sb,rfl,HST5.out.is,tW D1⟩)).mono ?_;rintro e w6 ⟨i,t,mv,dv,rfl,hs,hb6⟩;obtain⟨e1,e2,⟨am,nm,cm,rfl⟩,⟨ad,nd,cd,rfl⟩⟩:=hs.tV;rw[HN.out]at e1;rw[HT.out]at e2;subst e1 e2;have B6:=hid hb6;clear hs hb6;dsimp only;go_wp2_with fail;generalize hW7:World.alloc w6 _=W7;have B7:Hid (Below W5'.heap.size W5' W7):=hid (by subst hW7;exact B6.out.alloc B6.out.size _);have X7:Hid (bR W7 w6.heap.size n t (.slice am nm cm) (.slice ad nd cd)):=hid (by subst hW7;exact bR.box w6 _ _ _ _);clear hW7;have V7:=hid (V5.out.below B7.out);have HD7:=hid (HD5.out.below B7.out);have HB7:=hid (HB5.out.below B7.out);have HST7:Hid (cQ (fun k=>W3.heap.size<=k/\k<W7.heap.size) W7 sb db mb tb (cT D1)):=hid ((HST5.out.below B7.out).jU fun k h1 h2=>⟨h1,h2⟩);have K7:Hid (Kept w W7 (aZ db mb tb)):=hid (K5.out.trans (Kept.aL B7.out fun k h1 h2=>by omega));have SX:Hid (w.heap.size<=w6.heap.size/\w.heap.size<w6.heap.size):=hid (by have:=B6.out.size;have:=V5.out.lt;omega);clear V5 HD5 HB5 HST5 K5;refine(aIc HD7.out HG2.out HS2.out n HE3.out).mono ?_;rintro e w8 ⟨hk8,lb,ev,fv,el,rfl,hl8,hlb,hev,hfv⟩
 have V8:=hid (V7.out.kept hk8 HV.out);have X8:=hid (X7.out.kept hk8 (fun e=>by have:=HO3.out _ e;have:=SX.out;omega));have HB8:=hid (HB7.out.kept hk8 (fun e=>by have:=HO3.out _ e;have:=HBB.out;omega));have HST8:=hid (HST7.out.kept hk8);have K8:=hid (K7.out.trans hk8);have HL8:=hid hl8;have SZ7:Hid (W3.heap.size<=W7.heap.size/\W7.heap.size<=lb/\sb<W7.heap.size):=hid ⟨by have:=HST7.out.lt;have:=HSB.out;omega,hlb,HST7.out.lt⟩;have HEV:=hid hev;have HFV:=hid hfv;clear hk8 hl8 hlb hev hfv;obtain⟨v0,v1,v2,v3,f0,f1,f2,f3,_⟩:=V8.out;dsimp only;go_wp2_with fail;generalize hW9:World.setCell w8 _ _=W9;have KS9:Hid (Kept w8 W9 (fun k=>k=w.heap.size)):=hid (by subst hW9;exact Kept.setCell w8 ⟨w.heap.size,2,none⟩ _);have V9:Hid (VC W9 w.heap.size (some ⟨bb,0,none⟩) (some ⟨sb,0,none⟩) (some ⟨lb,0,none⟩)):=hid (by subst hW9;exact V8.out.iO _);have HLV:Hid (¬mE lb db mb tb ev fv w.heap.size):=hid fun e=>by
  have:=SZ3.out;have:=SZ7.out;rcases e with e|e|e|e
  ·omega
  ·exact HV.out e
  ·have:=HEV.out _ e;omega
  ·have:=HFV.out _ e;omega
 have HD9:Hid (aG W9 db mb tb D3):=hid (HL8.out.dZ.cR KS9.out (fun k h1 h2=>HV.out (h2 ▸ h1)) (fun k e j y hy=>by subst e;exact V8.out.n8 j y hy));have HL9:=hid (HL8.out.aside HD9.out (KS9.out.mono fun _ _ e=>.inr e) HLV.out V8.out.n8);have HB9:=hid (HB8.out.kept KS9.out (fun e=>by have:=HBB.out;omega));have HST9:=hid (HST8.out.nM KS9.out (fun e=>by have:=HSB.out;have:=SZ3.out;omega) (fun k e=>.inr fun q=>by have:=SZ3.out;omega));have X9:=hid (X8.out.kept KS9.out (fun e=>by have:=SX.out;omega));have KK:=hid (K8.out.eU KS9.out (Nat.le_refl _));have H9:Hid (bG W9 ⟨w.heap.size,bb,sb,lb,db,mb,tb,fun k=>w.heap.size<=k⟩ ev fv el D3 ⟨(cO D).t,(cO D).v,cT D1,L,false⟩):=hid (bG.make V9.out HB9.out HST9.out HL9.out HO3.out HBB.out SZ3.out.2 HSB.out SZ7.out.2.2 SZ7.out.2.1 HEV.out HFV.out (tW D1));have OWN:Hid (∀k,oO ⟨w.heap.size,bb,sb,lb,db,mb,tb,fun k=>w.heap.size<=k⟩ ev fv k->aZ db mb tb k\/w.heap.size<=k):=hid fun k h=>by
  have:=HBB.out;have:=HSB.out;have:=SZ3.out;have:=SZ7.out;rcases h with h|h|h|h|h|h|h
  ·right;dsimp only at h;omega
  ·right;dsimp only at h;omega
  ·right;dsimp only at h;omega
  ·right;dsimp only at h;omega
  ·exact .inl h
  ·right;have:=HEV.out _ h;omega
  ·right;have:=HFV.out _ h;omega
 clear hW9 v0 v1 v2 v3 f0 f1 f2 f3 KS9 V9 HLV HD9 HL9 HB9 HST9 X8 V8 HB8 HST8 HL8 K8 V7 X7 HD7 HB7 HST7 K7;have ST9:=aR.from W9;go_wp2_with fail;refine aU [0,1,3,7,15,0,32,127,255,511,511,0,3071,8191] 0 (fun w'=>Below W9.heap.size W9 w') (by kernel_rfl) ?_;refine aB [0,1,2,3,4,5,6] (by kernel_rfl) (L:=bm 14 127) (by kernel_rfl) (f':=7) rfl (fun _ _ _ _ h=>h) (fun w o h=>ST9.alloc h o) (.inr (by first|exact Below.refl _ _|exact(Below.refl _ _).drew)) ?_;simp only[sF,sL]
 iterate 7 (first|(refine aW _ (by rfl) (fun w' hs=>by have c2:=(H9.out.below hs).c2;obtain⟨x0,x1,x2,x3,_,_,_,_⟩:=X9.out.below hs;go_simp;try with_reducible rfl) rfl ?_;simp only[Act.put,sA])|(refine aC _ (by rfl) (fun w'=>by go_simp;try with_reducible rfl) ?_;simp only[Act.put,sA]))
 refine aI ?_;refine aAR 7 11 (by kernel_rfl) (Lj:=bm 14 255) (Lk:=bm 14 2175) (by kernel_rfl) (by kernel_rfl) ?_ ?_
 ·simp only[sL];go_wp2_with fail;refine(aE6 (H9.out.below ((Below.refl W9.heap.size W9).drew)).log HLL.out HLN.out n HYT.out HYK.out HYS.out).mono ?_;rintro e w3 ⟨a,en,ec,rfl,hb3⟩;have B3:Hid (Below W9.heap.size W9 w3):=hid (((Below.refl W9.heap.size W9).drew).trans (hb3.mono ((Below.refl W9.heap.size W9).drew).size));clear hb3;go_wp2_with fail;refine aH nofun ?_;refine aB [8,9,10] (by kernel_rfl) (L:=bm 14 2047) (by kernel_rfl) (f':=3) rfl (fun _ _ _ _ h=>h) (fun w o h=>ST9.alloc h o) (.inl (by kernel_rfl)) ?_;simp only[sF,sL]
  iterate 3 (refine aC _ (by rfl) (fun w'=>by go_simp;try with_reducible rfl) ?_;simp only[Act.put,sA])
  refine aI ?_;refine aM 11 (by kernel_rfl) (L:=bm 14 4095) (by kernel_rfl) ?_;simp only[sL];go_wp2_with fail;have E4:Hid (EC (w3.alloc (.cells #[.int .u64 0,.int .i64 0,.slice none 0 0] 38)) w3.heap.size 0 0 (.slice none 0 0)):=hid (EC.box w3);have LB:Hid (W9.heap.size<=w3.heap.size):=hid B3.out.size;have B4:Hid (Below W9.heap.size W9 (w3.alloc (.cells #[.int .u64 0,.int .i64 0,.slice none 0 0] 38))):=hid (B3.out.alloc B3.out.size _);generalize World.alloc w3 _=W4 at *
  generalize hEB:w3.heap.size=eb at *
  refine aH nofun ?_;refine aM 12 (by kernel_rfl) (L:=bm 14 8191) (by kernel_rfl) ?_;simp only[sL];obtain⟨q0,q1,q2,g0,g1,g2⟩:=E4.out;go_wp2_with fail;have E5:Hid (EC _ _ yt yk (.slice a en ec)):=hid ((E4.out.set yt yk).put (.slice a en ec));have B5:Hid (Below W9.heap.size W9 _):=hid (B4.out.trans ((EC.oH W4 eb (.int .u64 yt) (.int .i64 yk) (.slice a en ec)).below B4.out.size fun k e=>by have:=LB.out;omega));generalize World.setCell _ _ _=W5 at *
  clear q0 q1 q2 g0 g1 g2;refine aH nofun ?_;refine aB [13] (by kernel_rfl) (L:=bm 14 16383) (by kernel_rfl) (f':=0) rfl (fun _ _ _ _ h=>h) (fun w o h=>ST9.alloc h o) (.inl (by kernel_rfl)) ?_;simp only[sF,sL]
  iterate 1 (refine aC _ (by rfl) (fun w'=>by go_simp;try with_reducible rfl) ?_;simp only[Act.put,sA])
  refine aI ?_;refine bC (by kernel_rfl) ?_;have H5:=hid (H9.out.below B5.out);obtain⟨x0,x1,x2,x3,_,_,_,_⟩:=X9.out.below B5.out;obtain⟨q0,_,_,_,_,_⟩:=E5.out;have KF:Hid (Kept w W5 (aZ db mb tb)):=hid (KK.out.andThen (Kept.aL B5.out (S:=fun _=>False) fun k h1 h2=>by omega) fun k hk h=>h.elim id False.elim);clear E4 LB B4 ST9;cases okk with
  | false =>
   go_wp2_with fail;refine bodyPost_ret (v:=.tuple #[.pointer (some ⟨w.heap.size,0,none⟩),.int .i64 0]) (by simp[results,Tryz.results41,go_sem]) rfl ?_;rw[(HNO.out (fun e=>by cases e)).1,(HNO.out (fun e=>by cases e)).2];exact⟨⟨w.heap.size,bb,sb,lb,db,mb,tb,fun k=>w.heap.size<=k⟩,ev,fv,el,rfl,rfl,rfl,rfl,H5.out,KF.out,OWN.out,fun _ h=>h⟩
  | true =>
   cases hx:(yt != t) with
   | false =>
    have HX:=hid hx;go_wp2_with fail;refine bodyPost_ret (v:=.tuple #[.pointer (some ⟨w.heap.size,0,none⟩),.int .i64 0]) (by simp[results,Tryz.results41,go_sem]) rfl ?_;rw[(HNO.out (fun _=>HX.out)).1,(HNO.out (fun _=>HX.out)).2];exact⟨⟨w.heap.size,bb,sb,lb,db,mb,tb,fun k=>w.heap.size<=k⟩,ev,fv,el,rfl,rfl,rfl,rfl,H5.out,KF.out,OWN.out,fun _ h=>h⟩
   | true =>
    obtain⟨hr,hg3,hokl,hsr,hfs⟩:=HYES.out rfl hx;have HRS:=hid hr;have HG3:=hid hg3;have HOKL:=hid hokl;have HSR:=hid hsr;have HFS:=hid hfs;clear hr hg3 hokl hsr hfs;have X5:=hid (X9.out.below B5.out);have ST5:=aR.from W5;go_wp2_with fail;clear x0 x1 x2 x3 q0;refine aU [0,1,3,7,15,0,32,127,255] 0 (fun w'=>Below W5.heap.size W5 w') (by kernel_rfl) ?_;refine aB [0,1,2,3,4,5,6] (by kernel_rfl) (L:=bm 9 127) (by kernel_rfl) (f':=2) rfl (fun _ _ _ _ h=>h) (fun w o h=>ST5.alloc h o) (.inr (by first|exact Below.refl _ _|exact(Below.refl _ _).drew)) ?_;simp only[sF,sL]
    iterate 7 (first|(refine aW _ (by rfl) (fun w' hs=>by have c2:=(H5.out.below hs).c2;obtain⟨x0,x1,x2,x3,_,_,_,_⟩:=X5.out.below hs;go_simp;try with_reducible rfl) rfl ?_;simp only[Act.put,sA])|(refine aC _ (by rfl) (fun w'=>by go_simp;try with_reducible rfl) ?_;simp only[Act.put,sA]))
    refine aI ?_;refine aM 7 (by kernel_rfl) (L:=bm 9 255) (by kernel_rfl) ?_;simp only[sL];go_wp2_with fail;refine(pL (H5.out.below (Below.refl W5.heap.size W5).drew).log HG3.out HOKL.out HSR.out HFS.out n).mono ?_;rintro e w6 ⟨rfl,ev6,fv6,el6,hl6,hs6⟩;rw[HRS.out]at hl6 ⊢;have H6:=hid ((H5.out.below (Below.refl W5.heap.size W5).drew).mG hl6 hs6);have VS6:Hid (dN ⟨w.heap.size,bb,sb,lb,db,mb,tb,fun k=>w.heap.size<=k⟩ W5 ev fv w6 ev6 fv6):=hid ((dN.below (b:=⟨w.heap.size,bb,sb,lb,db,mb,tb,fun k=>w.heap.size<=k⟩) (ev:=ev) (fv:=fv) (Below.refl W5.heap.size W5).drew).trans (dN.mH (b:=⟨w.heap.size,bb,sb,lb,db,mb,tb,fun k=>w.heap.size<=k⟩) hs6));clear hl6 hs6;dsimp only;go_wp2_with fail;refine aH nofun ?_;refine aM 8 (by kernel_rfl) (L:=bm 9 511) (by kernel_rfl) ?_;simp only[sL];go_wp2_with fail;refine aH nofun ?_;refine bC (by kernel_rfl) ?_;go_wp2_with fail;refine bodyPost_ret (v:=.tuple #[.pointer (some ⟨w.heap.size,0,none⟩),.int .i64 0]) (by simp[results,Tryz.results41,go_sem]) rfl ?_;have KF6:Hid (Kept w w6 (aZ db mb tb)):=hid (Kept.andThen KF.out VS6.out.1 (by
     intro k hk h;rcases h with h|h
     ·exact h
     ·rcases OWN.out k h with q|q
      ·exact q
      ·exact absurd hk (Nat.not_lt.2 q)))
    refine⟨⟨w.heap.size,bb,sb,lb,db,mb,tb,fun k=>w.heap.size<=k⟩,ev6,fv6,el6,rfl,rfl,rfl,rfl,H6.out,KF6.out,fun k h=>?_,fun _ h=>h⟩;rcases h with h|h|h|h|h|h|h
    ·exact OWN.out k (.inl h)
    ·exact OWN.out k (.inr (.inl h))
    ·exact OWN.out k (.inr (.inr (.inl h)))
    ·exact OWN.out k (.inr (.inr (.inr (.inl h))))
    ·exact .inl h
    ·rcases VS6.out.2.1 k h with h|h
     ·exact OWN.out k (.inr (.inr (.inr (.inr (.inr (.inl h))))))
     ·exact .inr (Nat.le_trans KF.out.size h)
    ·rcases VS6.out.2.2 k h with h|h
     ·exact OWN.out k (.inr (.inr (.inr (.inr (.inr (.inr h))))))
     ·exact .inr (Nat.le_trans KF.out.size h)
 ·simp only[sL];go_wp2_with fail;have E3:Hid (EC (W9.alloc (.cells #[.int .u64 0,.int .i64 0,.slice none 0 0] 38)).drew W9.heap.size 0 0 (.slice none 0 0)):=hid ((EC.box W9).below (Below.refl _ _).drew);have B4:Hid (Below W9.heap.size W9 (W9.alloc (.cells #[.int .u64 0,.int .i64 0,.slice none 0 0] 38)).drew):=hid ((Below.refl W9.heap.size W9).alloc (Nat.le_refl _) _).drew;generalize World.alloc W9 _=W3' at *
  refine aH nofun ?_;refine aM 7 (by kernel_rfl) (L:=bm 14 2303) (by kernel_rfl) ?_;simp only[sL];go_wp2_with fail;refine(aE6 (H9.out.below B4.out).log HLL.out HLN.out n HYT.out HYK.out HYS.out).mono ?_;rintro e w3 ⟨a,en,ec,rfl,hb3⟩;have B3:Hid (Below W9.heap.size W9 w3):=hid (B4.out.trans (hb3.mono B4.out.size));have E4:=hid (E3.out.below hb3);have LB:=hid (Nat.le_refl W9.heap.size);clear hb3;go_wp2_with fail;refine aH nofun ?_;refine aB [8,9,10] (by kernel_rfl) (L:=bm 14 4095) (by kernel_rfl) (f':=2) rfl (fun _ _ _ _ h=>h) (fun w o h=>ST9.alloc h o) (.inl (by kernel_rfl)) ?_;simp only[sF,sL]
  iterate 3 (refine aC _ (by rfl) (fun w'=>by go_simp;try with_reducible rfl) ?_;simp only[Act.put,sA])
  refine aI ?_;refine aM 12 (by kernel_rfl) (L:=bm 14 8191) (by kernel_rfl) ?_;simp only[sL];obtain⟨q0,q1,q2,g0,g1,g2⟩:=E4.out;go_wp2_with fail;have E5:Hid (EC _ _ yt yk (.slice a en ec)):=hid ((E4.out.set yt yk).put (.slice a en ec));have B5:Hid (Below W9.heap.size W9 _):=hid (B3.out.trans ((EC.oH w3 W9.heap.size (.int .u64 yt) (.int .i64 yk) (.slice a en ec)).below B3.out.size fun k e=>by omega));generalize World.setCell _ _ _=W5 at *
  clear q0 q1 q2 g0 g1 g2;refine aH nofun ?_;refine aB [13] (by kernel_rfl) (L:=bm 14 16383) (by kernel_rfl) (f':=0) rfl (fun _ _ _ _ h=>h) (fun w o h=>ST9.alloc h o) (.inl (by kernel_rfl)) ?_;simp only[sF,sL]
  iterate 1 (refine aC _ (by rfl) (fun w'=>by go_simp;try with_reducible rfl) ?_;simp only[Act.put,sA])
  refine aI ?_;refine bC (by kernel_rfl) ?_;have H5:=hid (H9.out.below B5.out);obtain⟨x0,x1,x2,x3,_,_,_,_⟩:=X9.out.below B5.out;obtain⟨q0,_,_,_,_,_⟩:=E5.out;have KF:Hid (Kept w W5 (aZ db mb tb)):=hid (KK.out.andThen (Kept.aL B5.out (S:=fun _=>False) fun k h1 h2=>by omega) fun k hk h=>h.elim id False.elim);clear E4 LB B4 ST9;cases okk with
  | false =>
   go_wp2_with fail;refine bodyPost_ret (v:=.tuple #[.pointer (some ⟨w.heap.size,0,none⟩),.int .i64 0]) (by simp[results,Tryz.results41,go_sem]) rfl ?_;rw[(HNO.out (fun e=>by cases e)).1,(HNO.out (fun e=>by cases e)).2];exact⟨⟨w.heap.size,bb,sb,lb,db,mb,tb,fun k=>w.heap.size<=k⟩,ev,fv,el,rfl,rfl,rfl,rfl,H5.out,KF.out,OWN.out,fun _ h=>h⟩
  | true =>
   cases hx:(yt != t) with
   | false =>
    have HX:=hid hx;go_wp2_with fail;refine bodyPost_ret (v:=.tuple #[.pointer (some ⟨w.heap.size,0,none⟩),.int .i64 0]) (by simp[results,Tryz.results41,go_sem]) rfl ?_;rw[(HNO.out (fun _=>HX.out)).1,(HNO.out (fun _=>HX.out)).2];exact⟨⟨w.heap.size,bb,sb,lb,db,mb,tb,fun k=>w.heap.size<=k⟩,ev,fv,el,rfl,rfl,rfl,rfl,H5.out,KF.out,OWN.out,fun _ h=>h⟩
   | true =>
    obtain⟨hr,hg3,hokl,hsr,hfs⟩:=HYES.out rfl hx;have HRS:=hid hr;have HG3:=hid hg3;have HOKL:=hid hokl;have HSR:=hid hsr;have HFS:=hid hfs;clear hr hg3 hokl hsr hfs;have X5:=hid (X9.out.below B5.out);have ST5:=aR.from W5;go_wp2_with fail;clear x0 x1 x2 x3 q0;refine aU [0,1,3,7,15,0,32,127,255] 0 (fun w'=>Below W5.heap.size W5 w') (by kernel_rfl) ?_;refine aB [0,1,2,3,4,5,6] (by kernel_rfl) (L:=bm 9 127) (by kernel_rfl) (f':=2) rfl (fun _ _ _ _ h=>h) (fun w o h=>ST5.alloc h o) (.inr (by first|exact Below.refl _ _|exact(Below.refl _ _).drew)) ?_;simp only[sF,sL]
    iterate 7 (first|(refine aW _ (by rfl) (fun w' hs=>by have c2:=(H5.out.below hs).c2;obtain⟨x0,x1,x2,x3,_,_,_,_⟩:=X5.out.below hs;go_simp;try with_reducible rfl) rfl ?_;simp only[Act.put,sA])|(refine aC _ (by rfl) (fun w'=>by go_simp;try with_reducible rfl) ?_;simp only[Act.put,sA]))
    refine aI ?_;refine aM 7 (by kernel_rfl) (L:=bm 9 255) (by kernel_rfl) ?_;simp only[sL];go_wp2_with fail;refine(pL (H5.out.below (Below.refl W5.heap.size W5).drew).log HG3.out HOKL.out HSR.out HFS.out n).mono ?_;rintro e w6 ⟨rfl,ev6,fv6,el6,hl6,hs6⟩;rw[HRS.out]at hl6 ⊢;have H6:=hid ((H5.out.below (Below.refl W5.heap.size W5).drew).mG hl6 hs6);have VS6:Hid (dN ⟨w.heap.size,bb,sb,lb,db,mb,tb,fun k=>w.heap.size<=k⟩ W5 ev fv w6 ev6 fv6):=hid ((dN.below (b:=⟨w.heap.size,bb,sb,lb,db,mb,tb,fun k=>w.heap.size<=k⟩) (ev:=ev) (fv:=fv) (Below.refl W5.heap.size W5).drew).trans (dN.mH (b:=⟨w.heap.size,bb,sb,lb,db,mb,tb,fun k=>w.heap.size<=k⟩) hs6));clear hl6 hs6;dsimp only;go_wp2_with fail;refine aH nofun ?_;refine aM 8 (by kernel_rfl) (L:=bm 9 511) (by kernel_rfl) ?_;simp only[sL];go_wp2_with fail;refine aH nofun ?_;refine bC (by kernel_rfl) ?_;go_wp2_with fail;refine bodyPost_ret (v:=.tuple #[.pointer (some ⟨w.heap.size,0,none⟩),.int .i64 0]) (by simp[results,Tryz.results41,go_sem]) rfl ?_;have KF6:Hid (Kept w w6 (aZ db mb tb)):=hid (Kept.andThen KF.out VS6.out.1 (by
     intro k hk h;rcases h with h|h
     ·exact h
     ·rcases OWN.out k h with q|q
      ·exact q
      ·exact absurd hk (Nat.not_lt.2 q)))
    refine⟨⟨w.heap.size,bb,sb,lb,db,mb,tb,fun k=>w.heap.size<=k⟩,ev6,fv6,el6,rfl,rfl,rfl,rfl,H6.out,KF6.out,fun k h=>?_,fun _ h=>h⟩;rcases h with h|h|h|h|h|h|h
    ·exact OWN.out k (.inl h)
    ·exact OWN.out k (.inr (.inl h))
    ·exact OWN.out k (.inr (.inr (.inl h)))
    ·exact OWN.out k (.inr (.inr (.inr (.inl h))))
    ·exact .inl h
    ·rcases VS6.out.2.1 k h with h|h
     ·exact OWN.out k (.inr (.inr (.inr (.inr (.inr (.inl h))))))
     ·exact .inr (Nat.le_trans KF.out.size h)
    ·rcases VS6.out.2.2 k h with h|h
     ·exact OWN.out k (.inr (.inr (.inr (.inr (.inr (.inr h))))))
     ·exact .inr (Nat.le_trans KF.out.size h)
theorem aEn {db mb tb:Nat}{D:aA}{w:World}(hd:aG w db mb tb D)(hg:aY D)(hst:D.steps+2000<=1000000000){D1 D3:aA}{L:aQ}{n:Nat}(h1:aT D=(D1,0))(h2:cN D1=0)(hn:(cT D1).i=n)
  (h3:dP (bD D1).1 n=(D3,some L,0)) (hl:L.last<=H59) (hes:L.es.length<=2147483648)
  (ho:atW L n=none) :
  Calls Tryz.prog 41 #[.pointer (some ⟨db,0,none⟩)] w (aDm db mb tb D3 ⟨(cO D).t,(cO D).v,cT D1,L,false⟩ w) :=
 rG hd hg hst h1 h2 hn h3 (aJ3 hl) hes (fun _=>⟨rfl,rfl⟩) fun y e=>by rw[ho]at e;cases e
open Go.RowKit Go.Maps Go.Proofs.Own Go.Shelf

theorem fN.aKW {D D':aA}{L:aQ}{P:List Pc}(h:fN D L P)(e:jA D'=jA D):fN D' L P :=
 ⟨by rw[e];exact h.fil,h.fs,h.es,h.ch,h.ok,h.hi,h.full,h.safe,h.kept,h.lo⟩
theorem aA3.cut {r:aA × aQ × Nat}(h:aA3 r)(hg:aY r.1):rJ r.1 r.2.1:=⟨h.2.2,h.1,h.2.1,hg⟩
theorem aBR {D:aA}{V:eB}{ms:List cU}(hc:rJ D V.L)(hb:V.br=false)(hs:D.steps+3<=1000000000)(hd:(gN D V ms).1.down=false) :
  rJ (gN D V ms).1 (gN D V ms).2.1.L/\(gN D V ms).1.steps<=D.steps+3:=by
 obtain⟨P,hi⟩:=hc.inv;have hg:=(rZ D V.L ms).fX hc.fX (by omega);have hl:=wG hi hc.up hc.ris ms;unfold gN at hd ⊢;rw[if_neg (by rw[hb];decide)]at hd ⊢;by_cases he:(bY D V.L ms).2.2≠0
 ·rw[if_pos he]at hd ⊢;rcases hl with h|h
  ·exact⟨h.cut hg.1,by have:=hg.2;show (bY D V.L ms).1.steps<=_;omega⟩
  ·have h1:(bY D V.L ms).1.down=false:=hd;rw[h.1]at h1;cases h1
 ·rw[if_neg he]at hd ⊢;have hup:aA3 (bY D V.L ms):=hl.resolve_right fun h=>he (by rw[h.2.1];decide);obtain⟨u1,u2,P1,u3⟩:=hup;have hg2:=(lG (bY D V.L ms).1 (bY D V.L ms).2.1).fX hg.1 (by have:=hg.2;omega);rcases aJh u3 u1 u2 with h|h
  ·exact⟨h.cut hg2.1,by have:=hg.2;have:=hg2.2;show (cB _ _).1.steps<=_;omega⟩
  ·have h1:(cB (bY D V.L ms).1 (bY D V.L ms).2.1).1.down=false:=hd;rw[h.1]at h1;cases h1
theorem aJK:rJ dX lX:=⟨⟨_,aK8⟩,rfl,aKu,aIg⟩
def vX:eB:=⟨0,-1,eO,lX,false⟩
def rY1:aA × eB × Nat:=gN dX vX [xE,xE,xE]
def rY2:aA × eB × Nat:=qM rY1.1 rY1.2.1 (jB 2)
theorem aBH:aT dX=(dX,0)/\cN dX=0/\(cT dX).i=(0:Nat)/\(bD dX).1=dX:=by
 refine⟨by kernel_rfl,by kernel_rfl,by kernel_rfl,by kernel_rfl⟩
theorem aLm:(⟨(cO dX).t,(cO dX).v,cT dX,lX,false⟩:eB)=vX:=by kernel_rfl
theorem y1:rY1.2.2=0/\rY1.2.1.br=false/\rY1.1.down=false/\rY1.2.1.L.last=3/\rY1.2.1.L.es.length=3/\rY1.2.1.L.b=0:=by decide +kernel
theorem aIh:(eC rY1.1 rY1.2.1.s (jB 2)).2=0/\(eC rY1.1 rY1.2.1.s (jB 2)).1.down=false:=by decide +kernel
theorem aK9:jA (eC rY1.1 rY1.2.1.s (jB 2)).1=jA rY1.1:=by kernel_rfl
theorem y2:rY2.2.2=0/\rY2.2.1.br=false/\rY2.2.1.L.last=3/\rY2.2.1.L.es.length=3:=by decide +kernel
theorem y2s:rY2.2.1.s=jB 2/\iS rY2.2.1 2=(1,true):=⟨by kernel_rfl,by kernel_rfl⟩
theorem y1c:rJ rY1.1 rY1.2.1.L/\rY1.1.steps<=3:=aBR (V:=vX) (ms:=[xE,xE,xE]) aJK rfl (by decide) y1.2.2.1

theorem nH.calm {N:ByteArray->Prop}{D D':aA}(h:nH N D D'):Calm D->Calm D':=by
 induction h with
 | refl=>exact id
 | remove D n _=>exact fun hc=>hc.aEZ (.remove D n)
 | sync D n _=>exact fun hc=>hc.aEZ (.sync D n)
 | cut D n k _ =>
  intro hc;unfold cutD;split
  ·rename_i f _;split
   ·exact hc
   ·split
    ·exact hc
    ·split
     ·rename_i ha;rw[hc.2]at ha;cases ha
     ·exact hc.step _
  ·exact hc
 | append D n b _ =>
  intro hc;unfold aV;split
  ·exact hc
  ·have h2:Calm (lL D n b):=hc;have h3:=h2.step (lL D n b).files;rw[<- bE (lL D n b)]at h3;exact h3
 | move D n t _ _ =>
  intro hc;unfold kC;split
  ·split
   ·exact hc
   ·split
    ·exact hc
    ·split
     ·rename_i ha;rw[hc.2]at ha;cases ha
     ·exact hc.step _
  ·exact hc
 | trans _ _ h1 h2=>exact fun hc=>h2 (h1 hc)
open Go.Lib (hid)
open Go.RowKit Go.Maps Go.Proofs.Own Go.Shelf

theorem aBB {db mb tb:Nat}{D:aA}{w:World}(hd:aG w db mb tb D)(hg:aY D)(hst:D.steps+2000<=1000000000){D1:aA}(h1:aT D=(D1,0))(h2:cN D1≠0) :
  Calls Tryz.prog 41 #[.pointer (some ⟨db,0,none⟩)] w fun e w'=>e = .returned (.tuple #[.pointer none,.int .i64 (cN D1)])/\aG w' db mb tb (bD D1).1/\Kept w w' (aZ db mb tb):=by
 have hg1:=mC hg (by omega);rw[h1]at hg1;dsimp only at hg1;have HD:=hid hd;have HG:=hid hg;have HG1:=hid hg1.1;have HS:Hid (D.steps+2<=1000000000):=hid (by omega);have HE1:=hid h1;have HE2:=hid h2;have HV:Hid (¬aZ db mb tb w.heap.size):=hid fun e=>by have:=hd.lt3 _ e;omega
 have HO3:Hid (∀k,aZ db mb tb k->k<w.heap.size):=hid hd.lt3;obtain⟨e2,he2⟩:∃e2,cN D1=e2:=⟨_,rfl⟩;have HEQ:=hid he2;have hb2:((e2:Int) != 0)=true:=by simp;omega
 rw[he2];clear hd hg hst h1 h2 hg1 he2;go_enter Tryz.func41,Tryz.ntmps41;go_wp2_with fail;generalize hW1:World.alloc w _=W1;have B1:Hid (Below w.heap.size w W1):=hid (by subst hW1;exact(Below.refl _ _).alloc (Nat.le_refl _) _);have V1:Hid (VC W1 w.heap.size none none none):=hid (by subst hW1;exact VC.new w);have HD1:=hid (HD.out.below B1.out);have K1:Hid (Kept w W1 (aZ db mb tb)):=hid (Kept.aL B1.out fun k h1 h2=>by omega);clear hW1;refine(uB db mb tb D W1 HD1.out HG.out HS.out).mono ?_;rintro e w2 ⟨_,hok,hd2,hk2⟩;rw[HE1.out]at hok hd2;obtain⟨bb,rfl,hbk,hbb⟩:=hok rfl;have V2:=hid (V1.out.kept hk2 HV.out);have HB2:=hid hbk;have HD2:=hid hd2;have K2:=hid (K1.out.trans hk2);have HBB:Hid (w.heap.size<bb):=hid (Nat.lt_of_lt_of_le V1.out.lt hbb);clear hok hd2 hk2 hbk hbb HD1;obtain⟨v0,v1,v2,v3,f0,f1,f2,f3,_⟩:=V2.out;dsimp only;go_wp2_with fail;generalize hW3:World.setCell w2 _ _=W3;have KS3:Hid (Kept w2 W3 (fun k=>k=w.heap.size)):=hid (by subst hW3;exact Kept.setCell w2 ⟨w.heap.size,0,none⟩ _);have V3:Hid (VC W3 w.heap.size (some ⟨bb,0,none⟩) none none):=hid (by subst hW3;exact V2.out.sJ _);have HD3:Hid (aG W3 db mb tb D1):=hid (HD2.out.cR KS3.out (fun k h1 h2=>HV.out (h2 ▸ h1)) (fun k e j y hy=>by subst e;exact V2.out.n8 j y hy));have HB3:Hid (fB W3 bb db (cO D).t (cO D).v):=hid (HB2.out.kept KS3.out (fun e=>by have:=HBB.out;omega));have K3:=hid (K2.out.eU KS3.out (Nat.le_refl _));clear hW3 v0 v1 v2 v3 f0 f1 f2 f3 HD2 HB2 KS3 K2;refine(aD9 (fun k=>W3.heap.size<=k) db mb tb D1 W3 (fun b h=>h) HD3.out HG1.out).mono ?_;rintro e w4 ⟨hno,_,hd4,hk4⟩;obtain rfl:=hno HE2.out;rw[HEQ.out];have HD4:=hid hd4;have V4:=hid (V3.out.kept hk4 HV.out);have K4:=hid (K3.out.trans hk4);clear hno hd4 hk4;obtain⟨v0,v1,v2,v3,f0,f1,f2,f3,_⟩:=V4.out;dsimp only;go_wp2_with fail;generalize hW5:World.setCell w4 _ _=W5';have KS5:Hid (Kept w4 W5' (fun k=>k=w.heap.size)):=hid (by subst hW5;exact Kept.setCell w4 ⟨w.heap.size,1,none⟩ _);have HD5:Hid (aG W5' db mb tb (bD D1).1):=hid (HD4.out.cR KS5.out (fun k h1 h2=>HV.out (h2 ▸ h1)) (fun k e j y hy=>by subst e;exact V4.out.n8 j y hy));have K5:=hid (K4.out.eU KS5.out (Nat.le_refl _));clear hW5
 try go_wp2_with fail
 go_ret2
 exact⟨rfl,HD5.out,K5.out⟩
theorem aBC {db mb tb:Nat}{D:aA}{w:World}(hd:aG w db mb tb D)(hg:aY D)(hst:D.steps+2000<=1000000000){D1 D3:aA}{n e3:Nat}(h1:aT D=(D1,0))(h2:cN D1=0)(hn:(cT D1).i=n)(h3:dP (bD D1).1 n=(D3,none,e3))(he3:e3≠0) :
  Calls Tryz.prog 41 #[.pointer (some ⟨db,0,none⟩)] w fun e w'=>e = .returned (.tuple #[.pointer none,.int .i64 e3])/\aG w' db mb tb D3/\Kept w w' (aZ db mb tb):=by
 have hg1:=mC hg (by omega);rw[h1]at hg1;dsimp only at hg1;have hg2:=kZ hg1.1 (by omega);have HD:=hid hd;have HG:=hid hg;have HG1:=hid hg1.1;have HG2:=hid hg2.1;have HS:Hid (D.steps+2<=1000000000):=hid (by omega);have HS2:Hid ((bD D1).1.steps+1000<=1000000000):=hid (by omega);have HE1:=hid h1;have HE2:=hid h2;have HE3:=hid h3;have HN:=hid hn;obtain⟨xt,hxt⟩:∃xt,(cT D1).t=xt:=⟨_,rfl⟩;have HT:=hid hxt;have HV:Hid (¬aZ db mb tb w.heap.size):=hid fun e=>by have:=hd.lt3 _ e;omega
 have HO3:Hid (∀k,aZ db mb tb k->k<w.heap.size):=hid hd.lt3;have hb3:((e3:Int) != 0)=true:=by simp;omega
 clear hd hg hst h1 h2 h3 hn hg1 hg2 hxt he3;go_enter Tryz.func41,Tryz.ntmps41;go_wp2_with fail;generalize hW1:World.alloc w _=W1;have B1:Hid (Below w.heap.size w W1):=hid (by subst hW1;exact(Below.refl _ _).alloc (Nat.le_refl _) _);have V1:Hid (VC W1 w.heap.size none none none):=hid (by subst hW1;exact VC.new w);have HD1:=hid (HD.out.below B1.out);have K1:Hid (Kept w W1 (aZ db mb tb)):=hid (Kept.aL B1.out fun k h1 h2=>by omega);clear hW1;refine(uB db mb tb D W1 HD1.out HG.out HS.out).mono ?_;rintro e w2 ⟨_,hok,hd2,hk2⟩;rw[HE1.out]at hok hd2;obtain⟨bb,rfl,hbk,hbb⟩:=hok rfl;have V2:=hid (V1.out.kept hk2 HV.out);have HB2:=hid hbk;have HD2:=hid hd2;have K2:=hid (K1.out.trans hk2);have HBB:Hid (w.heap.size<bb):=hid (Nat.lt_of_lt_of_le V1.out.lt hbb);clear hok hd2 hk2 hbk hbb HD1;obtain⟨v0,v1,v2,v3,f0,f1,f2,f3,_⟩:=V2.out;dsimp only;go_wp2_with fail;generalize hW3:World.setCell w2 _ _=W3;have KS3:Hid (Kept w2 W3 (fun k=>k=w.heap.size)):=hid (by subst hW3;exact Kept.setCell w2 ⟨w.heap.size,0,none⟩ _);have V3:Hid (VC W3 w.heap.size (some ⟨bb,0,none⟩) none none):=hid (by subst hW3;exact V2.out.sJ _);have HD3:Hid (aG W3 db mb tb D1):=hid (HD2.out.cR KS3.out (fun k h1 h2=>HV.out (h2 ▸ h1)) (fun k e j y hy=>by subst e;exact V2.out.n8 j y hy));have HB3:Hid (fB W3 bb db (cO D).t (cO D).v):=hid (HB2.out.kept KS3.out (fun e=>by have:=HBB.out;omega));have K3:=hid (K2.out.eU KS3.out (Nat.le_refl _));clear hW3 v0 v1 v2 v3 f0 f1 f2 f3 HD2 HB2 KS3 K2;refine(aAO (fun k=>W3.heap.size<=k) db mb tb D1 W3 (fun b h=>h) HD3.out HG1.out HE2.out).mono ?_;rintro e w4 ⟨_,hok,hd4,hk4⟩;obtain⟨sb,rfl,hst,hsb⟩:=hok HE2.out;have V4:=hid (V3.out.kept hk4 HV.out);have HST4:=hid hst;have HD4:=hid hd4;have HB4:=hid (HB3.out.kept hk4 (fun e=>by have:=HO3.out _ e;have:=HBB.out;omega));have K4:=hid (K3.out.trans hk4);have HSB:Hid (W3.heap.size<=sb):=hid hsb;have SZ3:Hid (w.heap.size<W3.heap.size/\bb<W3.heap.size):=hid ⟨V3.out.lt,HB3.out.lt⟩;clear hok hd4 hk4 hst hsb;obtain⟨v0,v1,v2,v3,f0,f1,f2,f3,_⟩:=V4.out;dsimp only;go_wp2_with fail;generalize hW5:World.setCell w4 _ _=W5';have KS5:Hid (Kept w4 W5' (fun k=>k=w.heap.size)):=hid (by subst hW5;exact Kept.setCell w4 ⟨w.heap.size,1,none⟩ _);have V5:Hid (VC W5' w.heap.size (some ⟨bb,0,none⟩) (some ⟨sb,0,none⟩) none):=hid (by subst hW5;exact V4.out.pE _);have HD5:Hid (aG W5' db mb tb (bD D1).1):=hid (HD4.out.cR KS5.out (fun k h1 h2=>HV.out (h2 ▸ h1)) (fun k e j y hy=>by subst e;exact V4.out.n8 j y hy));have HB5:Hid (fB W5' bb db (cO D).t (cO D).v):=hid (HB4.out.kept KS5.out (fun e=>by have:=HBB.out;omega));have HST5:Hid (cQ (fun k=>W3.heap.size<=k) W5' sb db mb tb (cT D1)):=hid (HST4.out.nM KS5.out (fun e=>by have:=HSB.out;have:=SZ3.out;omega) (fun k e=>.inr fun q=>by have:=SZ3.out;omega));have K5:=hid (K4.out.eU KS5.out (Nat.le_refl _));clear hW5 v0 v1 v2 v3 f0 f1 f2 f3 HD4 HB4 HST4 KS5 K4 HD3 HB3 K3;refine(yN (some ⟨sb,0,none⟩) db mb tb (cT D1) W5' (.inr ⟨sb,rfl,HST5.out.is,tW D1⟩)).mono ?_;rintro e w6 ⟨i,t,mv,dv,rfl,hs,hb6⟩;obtain⟨e1,e2,⟨am,nm,cm,rfl⟩,⟨ad,nd,cd,rfl⟩⟩:=hs.tV;rw[HN.out]at e1;rw[HT.out]at e2;subst e1 e2;have B6:=hid hb6;clear hs hb6;dsimp only;go_wp2_with fail;generalize hW7:World.alloc w6 _=W7;have B7:Hid (Below W5'.heap.size W5' W7):=hid (by subst hW7;exact B6.out.alloc B6.out.size _);have X7:Hid (bR W7 w6.heap.size n t (.slice am nm cm) (.slice ad nd cd)):=hid (by subst hW7;exact bR.box w6 _ _ _ _);clear hW7;have V7:=hid (V5.out.below B7.out);have HD7:=hid (HD5.out.below B7.out);have HB7:=hid (HB5.out.below B7.out);have HST7:Hid (cQ (fun k=>W3.heap.size<=k/\k<W7.heap.size) W7 sb db mb tb (cT D1)):=hid ((HST5.out.below B7.out).jU fun k h1 h2=>⟨h1,h2⟩);have K7:Hid (Kept w W7 (aZ db mb tb)):=hid (K5.out.trans (Kept.aL B7.out fun k h1 h2=>by omega));have SX:Hid (w.heap.size<=w6.heap.size/\w.heap.size<w6.heap.size):=hid (by have:=B6.out.size;have:=V5.out.lt;omega);clear V5 HD5 HB5 HST5 K5;have WO:Calls Tryz.prog 19 #[.pointer (some ⟨db,0,none⟩),.int .u64 n] W7 (aA4 db mb tb (dP (bD D1).1 n) W7):=by
  by_cases he:(bD D1).1.down=true\/H59<=n
  ·exact vF HD7.out n he
  ·exact zD HD7.out HG2.out HS2.out n (fun q=>he (.inl q)) (fun q=>he (.inr q))
 rw[HE3.out]at WO;refine WO.mono ?_;clear WO;rintro e w8 ⟨hd8,hk8,hno,_⟩;obtain rfl:=hno rfl;have HD8:=hid hd8;have V8:=hid (V7.out.kept hk8 HV.out);have K8:=hid (K7.out.trans hk8);clear hd8 hk8 hno;obtain⟨v0,v1,v2,v3,f0,f1,f2,f3,_⟩:=V8.out;dsimp only;go_wp2_with fail;generalize hW9:World.setCell w8 _ _=W9;have KS9:Hid (Kept w8 W9 (fun k=>k=w.heap.size)):=hid (by subst hW9;exact Kept.setCell w8 ⟨w.heap.size,2,none⟩ _);have HD9:Hid (aG W9 db mb tb D3):=hid (HD8.out.cR KS9.out (fun k h1 h2=>HV.out (h2 ▸ h1)) (fun k e j y hy=>by subst e;exact V8.out.n8 j y hy));have K9:=hid (K8.out.eU KS9.out (Nat.le_refl _));clear hW9
 try go_wp2_with fail
 go_ret2
 exact⟨rfl,HD9.out,K9.out⟩
