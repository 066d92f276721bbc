/- Several texts in one: Wyc, Wyd, Vta, Vtb, Vtc, Vtd, Vte, Vtf, Vtg for vltkeeps_law_holds. No conditions but those stated. -/
import Derived.Test.YtjdglpcnkiioeaaGreatVkb17
import Derived.Test.YtjdglpcnkiioeaaGreatVkb38
import Derived.Test.YtjdglpcnkiioeaaGreatVkb32
import Derived.Test.YtjdglpcnkiioeaaGreatVkb31
import Derived.Test.YtjdglpcnkiioeaaGreatVkb26
import Derived.Test.YtjdglpcnkiioeaaGreatVkb34
set_option maxHeartbeats 16000000
namespace Go.Proofs.YtjdglpcnkiioeaaGreat
open Go.ChangeShapes Go.WideShapes Go.ChangeAt Go.RowKit Go.Deep Go.Proofs.Own

structure wZ where
 t:Int
 k:Int
 da:Option Addr
 dn:Nat
 dc:Nat
def aI7 (r:wZ):List Value:=[.int .u64 r.t,.int .i64 r.k,.slice r.da r.dn r.dc]
def rM (w:World) (r:wZ):Prop:=(0 <= r.t /\ r.t < 18446744073709551616 /\ -9223372036854775808 <= r.k /\ r.k <= 9223372036854775807) /\ (r.dn <= 2097152 -> ∃ l,l.length = r.dn /\ Bytes w (.slice r.da r.dn r.dc) l)
def kX (w:World) (v:Value) (l:List wZ):Prop:=cS w 3 v (l.map aI7) /\ (∀ r ∈ l,rM w r) /\ l.length <= maxLen
theorem yA:Tryz.prog.cellsOf 38 = 3:=by kernel_rfl
theorem aBi:Tryz.prog.cellsOf 23 = 1:=by kernel_rfl
theorem aCg:Tryz.prog.cellsOf 24 = 1:=by kernel_rfl
theorem vU:Tryz.prog.cellsOf 36 = 1:=by kernel_rfl
section
variable {H:Type} {enc:TypeId × Value -> H} {W:World}
set_option maxRecDepth 100000 in
theorem aGu {n:Nat} {cs:List Value} {y:DataW H × List MemPlace} (h:DataW.trod enc Tryz.prog W 0 (fun _=>true) true n 38 cs = some y):∃ r:wZ,cs = aI7 r /\ rM W r:=by
 obtain ⟨xs,k,_,_,hl,hxl,hg⟩:=DataW.trod_struct Tryz.underlying38 h
 rw [yA] at hl
 match cs,hl with
 | [c0,c1,c2],_ =>
  match xs,hxl with
  | [y0,y1,y2],_ =>
   have g0:=hg 0 _ rfl
   have g1:=hg 1 _ rfl
   have g2:=hg 2 _ rfl
   simp only [List.getElem_toArray,List.getElem_cons_zero,List.getElem_cons_succ] at g0 g1 g2
   rw [sY] at g0
   rw [sV] at g1
   rw [vU] at g2
   simp only [List.drop_zero,List.drop_succ_cons,List.take_succ_cons,List.take_zero,List.getElem?_cons_zero,List.getElem?_cons_succ] at g0 g1 g2
   obtain ⟨z0,e0,_,w0⟩:=DataW.trod_int Tryz.underlying22 g0
   obtain rfl:c0 = .int .u64 z0:=by simpa using e0
   obtain ⟨z1,e1,_,w1⟩:=DataW.trod_int Tryz.underlying3 g1
   obtain rfl:c1 = .int .i64 z1:=by simpa using e1
   obtain ⟨ad,nd,cd,rfl,hd⟩:=wN g2
   exact ⟨⟨z0,z1,ad,nd,cd⟩,rfl,⟨(lK w0).1,(lK w0).2,(uN w1).1,(uN w1).2⟩,hd⟩
set_option maxRecDepth 100000 in
theorem aEf {fuel:Nat} {v:Value} {x:DataW H × List MemPlace} (hf:DataW.trod enc Tryz.prog W 0 (fun _=>true) true fuel 23 [v] = some x):∃ l,kX W v l:=by
 obtain ⟨rs,h1,h2⟩:=uZ (val:=aI7) (Ok:=rM W) Tryz.underlying23 yA (by decide) (fun n cs y h=>aGu h) hf
 exact ⟨rs,h1,h2⟩
end
theorem rM.below {w w':World} {r:wZ} (h:rM w r) (hb:Below w.heap.size w w'):rM w' r:=⟨h.1,fun e=>let ⟨l,h1,h2⟩:=h.2 e;⟨l,h1,h2.below hb⟩⟩
theorem kX.below {w w':World} {v:Value} {l:List wZ} (h:kX w v l) (hb:Below w.heap.size w w'):kX w' v l:=⟨h.1.below hb,fun r hr=>(h.2.1 r hr).below hb,h.2.2⟩
theorem kX.at {w:World} {a:Option Addr} {n c:Nat} {l:List wZ} (h:kX w (.slice a n c) l) {j:Nat} {r:wZ} (hj:l[j]? = some r):∃ b o,a = some ⟨b,o,none⟩ /\ b < w.heap.size /\ w.cell? ⟨b,o + j * 3,none⟩ = some (.int .u64 r.t) /\ w.cell? ⟨b,o + j * 3 + 1,none⟩ = some (.int .i64 r.k) /\ w.cell? ⟨b,o + j * 3 + 2,none⟩ = some (.slice r.da r.dn r.dc):=by
 obtain ⟨hl,he⟩:=List.getElem?_eq_some_iff.1 hj
 obtain ⟨b,o,h1,h2,h3⟩:=h.1.at (j:=j) (by rw [List.length_map];exact hl)
 rw [List.getElem_map,he] at h3
 exact ⟨b,o,h1,h2,by have:=h3 0 _ rfl;rwa [Nat.add_zero] at this,h3 1 _ rfl,h3 2 _ rfl⟩
theorem kX.aK2 {w:World} {v:Value} {l:List wZ} (h:kX w v l) (hd:∀ r ∈ l,r.dn <= 5000):∃ el:bE,mN w v el /\ el.length = l.length /\ ∀ p ∈ el,p.1.t < 18446744073709551616 /\ p.1.k < 18446744073709551616 /\ p.1.d.length <= 5000:=by
 have H:∀ l:List wZ,(∀ r ∈ l,rM w r /\ r.dn <= 5000) -> ∃ el:bE,aL el = l.map aI7 /\ bM w (fun _=>False) el /\ ∀ p ∈ el,p.1.t < 18446744073709551616 /\ p.1.k < 18446744073709551616 /\ p.1.d.length <= 5000:=by
  intro l
  induction l with
  | nil=>exact fun _=>⟨[],rfl,nofun,nofun⟩
  | cons r l ih =>
   intro hr
   obtain ⟨el,h1,h2,h3⟩:=ih fun q hq=>hr q (List.mem_cons_of_mem _ hq)
   obtain ⟨⟨⟨a1,a2,a3,a4⟩,a5⟩,a6⟩:=hr r (List.mem_cons_self ..)
   obtain ⟨d,e,hB⟩:=a5 (by omega)
   refine ⟨(⟨r.t,r.k,d⟩,.slice r.da r.dn r.dc) :: el,?_,?_,?_⟩
   ·unfold aL at h1 ⊢
    rw [List.map_cons,List.map_cons,h1]
    rfl
   ·intro p hp
    rcases List.mem_cons.1 hp with rfl | hp
    ·exact ⟨hB,⟨a1,a2,a3,a4⟩,fun _ _ h=>h⟩
    ·exact h2 p hp
   ·intro p hp
    rcases List.mem_cons.1 hp with rfl | hp
    ·exact ⟨a2,by simp only;omega,by simp only;omega⟩
    ·exact h3 p hp
 obtain ⟨el,h1,h2,h3⟩:=H l fun r hr=>⟨h.2.1 r hr,hd r hr⟩
 refine ⟨el,⟨by rw [h1];exact h.1,h2⟩,?_,h3⟩
 have:=congrArg List.length h1
 rw [aK,List.length_map] at this
 exact this
end Go.Proofs.YtjdglpcnkiioeaaGreat
namespace Go.Proofs.YtjdglpcnkiioeaaGreat
open Go.RowKit Go.Maps Go.Proofs.Own Go.Shelf

theorem aDX {α:Type} {l:List α} {j:Nat} (hj:j < l.length):∃ x,l[j]? = some x /\ x ∈ l:=⟨l[j],List.getElem?_eq_getElem hj,List.getElem_mem hj⟩

structure cB where
 t:Int
 v:Int
 s:aZ
 L:aM
 br:Bool
def uD (X:Nat -> Prop) (vb bb lb db mb tb:Nat) (ev fv:Value):Nat -> Prop:=fun k=>k ≠ vb /\ k ≠ bb /\ ¬ jR lb db mb tb ev fv k /\ X k
structure VB where
 vb:Nat
 bb:Nat
 sb:Nat
 lb:Nat
 db:Nat
 mb:Nat
 tb:Nat
 X:Nat -> Prop
structure aV (w:World) (b:VB) (ev fv:Value) (el:bE) (D:aA) (V:cB):Prop where
 c0:w.cell? ⟨b.vb,0,none⟩ = some (.pointer (some ⟨b.bb,0,none⟩))
 c1:w.cell? ⟨b.vb,1,none⟩ = some (.pointer (some ⟨b.sb,0,none⟩))
 c2:w.cell? ⟨b.vb,2,none⟩ = some (.pointer (some ⟨b.lb,0,none⟩))
 c3:w.cell? ⟨b.vb,3,none⟩ = some (.bool V.br)
 f3:w.frozen? ⟨b.vb,3,none⟩ = false
 n8:eG w b.vb
 book:dK w b.bb b.db V.t V.v
 store:cM (uD b.X b.vb b.bb b.lb b.db b.mb b.tb ev fv) w b.sb b.db b.mb b.tb V.s
 log:bD w b.lb b.db b.mb b.tb ev fv el D V.L
 nv:¬ jR b.lb b.db b.mb b.tb ev fv b.vb
 nb:b.bb ≠ b.vb /\ ¬ jR b.lb b.db b.mb b.tb ev fv b.bb
 ns:b.sb ≠ b.vb /\ b.sb ≠ b.bb /\ ¬ jR b.lb b.db b.mb b.tb ev fv b.sb
 sok:V.s = iO \/ 1 <= V.s.i
 xn:∀ k,w.heap.size <= k -> b.X k
def gH (b:VB) (ev fv:Value):Nat -> Prop:=fun k=>k = b.vb \/ k = b.bb \/ k = b.sb \/ jR b.lb b.db b.mb b.tb ev fv k
theorem aV.lt {w:World} {b:VB} {ev fv:Value} {el:bE} {D:aA} {V:cB} (h:aV w b ev fv el D V):b.vb < w.heap.size:=World.block_lt_of_cell? _ _ h.c0
theorem aV.jV {w:World} {b:VB} {ev fv:Value} {el:bE} {D:aA} {V:cB} (h:aV w b ev fv el D V) {k:Nat} (hk:gH b ev fv k):k < w.heap.size:=by
 rcases hk with rfl | rfl | rfl | hk
 ·exact h.lt
 ·exact h.book.lt
 ·exact h.store.lt
 ·exact h.log.jV hk
theorem aV.below {w w':World} {b:VB} {ev fv:Value} {el:bE} {D:aA} {V:cB} (h:aV w b ev fv el D V) (hb:Below w.heap.size w w'):aV w' b ev fv el D V :=
 have hl:=h.lt
 ⟨Below.at hb h.c0 hl,Below.at hb h.c1 hl,Below.at hb h.c2 hl,Below.at hb h.c3 hl,(hb.frozen (p:=⟨b.vb,3,none⟩) hl).trans h.f3,h.n8.kept (Kept.aJ hb (S:=fun _=>False) fun k h1 h2=>by omega) hl id,h.book.below hb,h.store.below hb,h.log.below hb,h.nv,h.nb,h.ns,h.sok,fun k q=>h.xn k (Nat.le_trans hb.size q)⟩
theorem aV.jT {w w':World} {b:VB} {ev fv:Value} {el:bE} {D D':aA} {V:cB} (h:aV w b ev fv el D V) (hd:aG w' b.db b.mb b.tb D') (hk:Kept w w' (bB b.db b.mb b.tb)):aV w' b ev fv el D' V :=
 have hn:¬ bB b.db b.mb b.tb b.vb:=fun e=>h.nv (.inr (.inl e))
 ⟨hk.cell h.c0 hn,hk.cell h.c1 hn,hk.cell h.c2 hn,hk.cell h.c3 hn,(hk.frozen (a:=⟨b.vb,3,none⟩) h.lt hn).trans h.f3,h.n8.kept hk h.lt hn,h.book.kept hk (fun e=>h.nb.2 (.inr (.inl e))),h.store.kept hk,h.log.jT hd hk,h.nv,h.nb,h.ns,h.sok,fun k q=>h.xn k (Nat.le_trans hk.size q)⟩
def cN (b:VB) (w:World) (ev fv:Value) (w':World) (ev' fv':Value):Prop :=
 Kept w w' (gH b ev fv) /\ (∀ k,ev'.ownBlock = some k -> ev.ownBlock = some k \/ w.heap.size <= k) /\ (∀ k,fv'.ownBlock = some k -> fv.ownBlock = some k \/ w.heap.size <= k)
theorem cN.kU {b:VB} {w w':World} {ev fv ev' fv':Value} (h:aS b.lb b.db b.mb b.tb w ev fv w' ev' fv'):cN b w ev fv w' ev' fv':=⟨h.1.mono fun _ _ e=>.inr (.inr (.inr e)),h.2.1,h.2.2⟩
theorem cN.below {b:VB} {w w':World} {ev fv:Value} (h:Below w.heap.size w w'):cN b w ev fv w' ev fv:=⟨Kept.aJ h fun k h1 h2=>by omega,fun _ h=>.inl h,fun _ h=>.inl h⟩
theorem cN.trans {b:VB} {w w1 w2:World} {ev fv ev1 fv1 ev2 fv2:Value} (h:cN b w ev fv w1 ev1 fv1) (k:cN b w1 ev1 fv1 w2 ev2 fv2):cN b w ev fv w2 ev2 fv2:=by
 refine ⟨h.1.andThen k.1 fun j hj hs=>?_,fun j hj=>?_,fun j hj=>?_⟩
 ·rcases hs with hs | hs | hs | hs | hs | hs | hs | hs
  ·exact hs
  ·exact .inl hs
  ·exact .inr (.inl hs)
  ·exact .inr (.inr (.inl hs))
  ·exact .inr (.inr (.inr (.inl hs)))
  ·exact .inr (.inr (.inr (.inr (.inl hs))))
  ·rcases h.2.1 j hs with e | e
   ·exact .inr (.inr (.inr (.inr (.inr (.inl e)))))
   ·exact absurd hj (Nat.not_lt.2 e)
  ·rcases h.2.2 j hs with e | e
   ·exact .inr (.inr (.inr (.inr (.inr (.inr e)))))
   ·exact absurd hj (Nat.not_lt.2 e)
 ·rcases k.2.1 j hj with e | e
  ·exact h.2.1 j e
  ·exact .inr (Nat.le_trans h.1.size e)
 ·rcases k.2.2 j hj with e | e
  ·exact h.2.2 j e
  ·exact .inr (Nat.le_trans h.1.size e)
theorem aS.aBH {lb db mb tb:Nat} {w w':World} {ev fv ev' fv':Value} (hs:aS lb db mb tb w ev fv w' ev' fv') {k:Nat} (hk:k < w.heap.size) (hn:¬ jR lb db mb tb ev fv k):¬ jR lb db mb tb ev' fv' k:=by
 rintro (hq | hq | hq | hq)
 ·exact hn (.inl hq)
 ·exact hn (.inr (.inl hq))
 ·rcases hs.2.1 k hq with e | e
  ·exact hn (.inr (.inr (.inl e)))
  ·omega
 ·rcases hs.2.2 k hq with e | e
  ·exact hn (.inr (.inr (.inr e)))
  ·omega
theorem aV.kT {w w':World} {b:VB} {ev fv ev' fv':Value} {el el':bE} {D D':aA} {V:cB} {L':aM} (h:aV w b ev fv el D V) (hl:bD w' b.lb b.db b.mb b.tb ev' fv' el' D' L') (hs:aS b.lb b.db b.mb b.tb w ev fv w' ev' fv') :
  aV w' b ev' fv' el' D' { V with L:=L' }:=by
 have hv:=h.lt
 refine ⟨hs.1.cell h.c0 h.nv,hs.1.cell h.c1 h.nv,hs.1.cell h.c2 h.nv,hs.1.cell h.c3 h.nv,(hs.1.frozen (a:=⟨b.vb,3,none⟩) hv h.nv).trans h.f3,h.n8.kept hs.1 hv h.nv,h.book.kept hs.1 h.nb.2,?_,hl,hs.aBH hv h.nv,⟨h.nb.1,hs.aBH h.book.lt h.nb.2⟩,⟨h.ns.1,h.ns.2.1,hs.aBH h.store.lt h.ns.2.2⟩,h.sok,fun k q=>h.xn k (Nat.le_trans hs.1.size q)⟩
 exact ((h.store.sM (T:=fun k=>uD b.X b.vb b.bb b.lb b.db b.mb b.tb ev fv k /\ uD b.X b.vb b.bb b.lb b.db b.mb b.tb ev' fv' k) (fun k hk hlt=>⟨hk,hk.1,hk.2.1,hs.aBH hlt hk.2.2.1,hk.2.2.2⟩)).nW hs.1 h.ns.2.2 (fun k hk=>.inr fun e=>e.1.2.2.1 hk)).sM (fun k hk _=>hk.2)
theorem bD.aside {w w':World} {lb db mb tb x:Nat} {ev fv:Value} {el:bE} {D D':aA} {L:aM} (h:bD w lb db mb tb ev fv el D L) (hd:aG w' db mb tb D') (hk:Kept w w' (fun k=>bB db mb tb k \/ k = x)) (hx:¬ jR lb db mb tb ev fv x) (h8:eG w x):bD w' lb db mb tb ev fv el D' L:=by
 have hl:=h.lt
 have n0:¬ (bB db mb tb lb \/ lb = x):=fun e=>e.elim h.nl (fun e=>hx (.inl e.symm))
 refine ⟨hd,hk.cell h.c0 n0,hk.cell h.c1 n0,hk.cell h.c2 n0,hk.cell h.c3 n0,hk.cell h.c4 n0,fun j h1 h2=>(hk.frozen (a:=⟨lb,j,none⟩) hl n0).trans (h.fz j h1 h2),(fun k hk2 j y hy=>by subst hk2;exact h.n8 k rfl j y (by rw [<- World.cell?_of_block (a:=⟨k,j,none⟩) (hk.block k hl n0)];exact hy)),h.es,
  h.er.kept hk fun b hb e=>e.elim (h.ne b hb).2.1 (fun e=>hx (.inr (.inr (.inl (e ▸ hb))))),h.fr.kept hk fun b hb e=>e.elim (h.nf b hb).2 (fun e=>hx (.inr (.inr (.inr (e ▸ hb))))),fun p hp=>?_,h.nl,h.ne,h.nf⟩
 obtain ⟨h1,h2,h3⟩:=h.dat p hp
 refine ⟨h1.lS hk fun hne b hb e=>?_,h2,h3⟩
 rcases e with e | e
 ·exact h3 b hb e
 ·obtain ⟨b',o,c,e2,_,_,hc⟩:=h1.fG (List.length_pos_iff.2 hne)
  rw [e2] at hb
  obtain rfl:b' = b:=Option.some.inj hb
  have:=hc 0 (List.length_pos_iff.2 hne)
  rw [e] at this
  exact h8 _ _ this
theorem cM.aK9 {R:Nat -> Prop} {w:World} {sb db mb tb:Nat} {s:aZ} (h:cM R w sb db mb tb s):eG w sb:=let ⟨_,_,h1,_⟩:=h;h1.n8
theorem aV.aHT {w w':World} {b:VB} {ev fv:Value} {el:bE} {D D':aA} {V:cB} {t' v':Int} (h:aV w b ev fv el D V) (hd:aG w' b.db b.mb b.tb D') (hbk:dK w' b.bb b.db t' v') (hk:Kept w w' (fun k=>bB b.db b.mb b.tb k \/ k = b.bb)) :
  aV w' b ev fv el D' { V with t:=t',v:=v' }:=by
 have hn:¬ (bB b.db b.mb b.tb b.vb \/ b.vb = b.bb):=fun e=>e.elim (fun e=>h.nv (.inr (.inl e))) (fun e=>h.nb.1 e.symm)
 have hs:¬ (bB b.db b.mb b.tb b.sb \/ b.sb = b.bb):=fun e=>e.elim (fun e=>h.ns.2.2 (.inr (.inl e))) h.ns.2.1
 exact ⟨hk.cell h.c0 hn,hk.cell h.c1 hn,hk.cell h.c2 hn,hk.cell h.c3 hn,(hk.frozen (a:=⟨b.vb,3,none⟩) h.lt hn).trans h.f3,h.n8.kept hk h.lt hn,hbk,h.store.nW hk hs (fun k hk=>hk.imp id (fun e q=>q.2.1 e)),h.log.aside hd hk h.nb.2 h.book.n8,h.nv,h.nb,h.ns,h.sok,fun k q=>h.xn k (Nat.le_trans hk.size q)⟩
theorem aV.aCC {w w':World} {b:VB} {ev fv:Value} {el:bE} {D D':aA} {V:cB} {s':aZ} (h:aV w b ev fv el D V) (hd:aG w' b.db b.mb b.tb D') (hst:cM (uD b.X b.vb b.bb b.lb b.db b.mb b.tb ev fv) w' b.sb b.db b.mb b.tb s') (hk:Kept w w' (fun k=>bB b.db b.mb b.tb k \/ k = b.sb)) (hok:s' = iO \/ 1 <= s'.i) :
  aV w' b ev fv el D' { V with s:=s' }:=by
 have hn:¬ (bB b.db b.mb b.tb b.vb \/ b.vb = b.sb):=fun e=>e.elim (fun e=>h.nv (.inr (.inl e))) (fun e=>h.ns.1 e.symm)
 have hb:¬ (bB b.db b.mb b.tb b.bb \/ b.bb = b.sb):=fun e=>e.elim (fun e=>h.nb.2 (.inr (.inl e))) (fun e=>h.ns.2.1 e.symm)
 exact ⟨hk.cell h.c0 hn,hk.cell h.c1 hn,hk.cell h.c2 hn,hk.cell h.c3 hn,(hk.frozen (a:=⟨b.vb,3,none⟩) h.lt hn).trans h.f3,h.n8.kept hk h.lt hn,h.book.kept hk hb,hst,h.log.aside hd hk h.ns.2.2 h.store.aK9,h.nv,h.nb,h.ns,hok,fun k q=>h.xn k (Nat.le_trans hk.size q)⟩
theorem aV.aJM {w:World} {b:VB} {ev fv:Value} {el:bE} {D:aA} {V:cB} (h:aV w b ev fv el D V) (x:Bool):aV (w.setCell ⟨b.vb,3,none⟩ (.bool x)) b ev fv el D { V with br:=x }:=by
 have hk:Kept w (w.setCell ⟨b.vb,3,none⟩ (.bool x)) (fun k=>k = b.vb):=Kept.setCell w ⟨b.vb,3,none⟩ _
 have hb:¬ b.bb = b.vb:=h.nb.1
 have hk':Kept w (w.setCell ⟨b.vb,3,none⟩ (.bool x)) (fun k=>bB b.db b.mb b.tb k \/ k = b.vb):=hk.mono fun _ _ e=>.inr e
 have hd:aG (w.setCell ⟨b.vb,3,none⟩ (.bool x)) b.db b.mb b.tb D:=h.log.dN.dT hk (fun k h1 h2=>h.nv (.inr (.inl (h2 ▸ h1)))) (fun k e j y hy=>by subst e;exact h.n8 j y hy)
 exact ⟨by rw [World.cell?_setCell_other _ _ _ _ (by simp)];exact h.c0,by rw [World.cell?_setCell_other _ _ _ _ (by simp)];exact h.c1,by rw [World.cell?_setCell_other _ _ _ _ (by simp)];exact h.c2,World.cell?_setCell_same _ _ _ h.c3,by rw [World.frozen?_setCell];exact h.f3,
  h.n8.set _ h.c3 (fun y e=>by cases e),h.book.kept hk hb,h.store.nW hk h.ns.1 (fun k e=>.inr fun q=>q.1 e),h.log.aside hd hk' h.nv h.n8,h.nv,h.nb,h.ns,h.sok,fun k q=>h.xn k (Nat.le_trans hk.size q)⟩
theorem aV.aLb {w:World} {b:VB} {ev fv:Value} {el:bE} {D:aA} {V:cB} (h:aV w b ev fv el D V) {T:Nat -> Prop} (hs:cM (fun k=>uD b.X b.vb b.bb b.lb b.db b.mb b.tb ev fv k /\ T k) w b.sb b.db b.mb b.tb V.s) (hT:∀ k,w.heap.size <= k -> T k):aV w { b with X:=T } ev fv el D V :=
 ⟨h.c0,h.c1,h.c2,h.c3,h.f3,h.n8,h.book,hs.sM fun _ q _=>⟨q.1.1,q.1.2.1,q.1.2.2.1,q.2⟩,h.log,h.nv,h.nb,h.ns,h.sok,hT⟩
theorem aV.aside {w w':World} {b:VB} {ev fv:Value} {el:bE} {D:aA} {V:cB} {x:Nat} (h:aV w b ev fv el D V) (hk:Kept w w' (fun k=>k = x)) (hx:¬ gH b ev fv x) (hX:¬ b.X x) (h8:eG w x):aV w' b ev fv el D V:=by
 have hn:¬ b.vb = x:=fun e=>hx (.inl e.symm)
 have hd:aG w' b.db b.mb b.tb D:=h.log.dN.dT hk (fun k h1 h2=>hx (.inr (.inr (.inr (.inr (.inl (h2 ▸ h1))))))) (fun k e j y hy=>by subst e;exact h8 j y hy)
 exact ⟨hk.cell h.c0 hn,hk.cell h.c1 hn,hk.cell h.c2 hn,hk.cell h.c3 hn,(hk.frozen (a:=⟨b.vb,3,none⟩) h.lt hn).trans h.f3,h.n8.kept hk h.lt hn,h.book.kept hk (fun e=>hx (.inr (.inl e.symm))),h.store.nW hk (fun e=>hx (.inr (.inr (.inl e.symm)))) (fun k e=>.inr fun q=>hX (e ▸ q.2.2.2)),
  h.log.aside hd (hk.mono fun _ _ e=>.inr e) (fun e=>hx (.inr (.inr (.inr e)))) h8,h.nv,h.nb,h.ns,h.sok,fun k q=>h.xn k (Nat.le_trans hk.size q)⟩
end Go.Proofs.YtjdglpcnkiioeaaGreat
namespace Go.Proofs.YtjdglpcnkiioeaaGreat
open Go.Lib (hid)
open Go.RowKit Go.Maps Go.Proofs.Own Go.Shelf

theorem aKl (x y z:Nat):∀ w:World,(Instr.field 109 (.agg #[.pointer (some ⟨x,0,none⟩),.pointer (some ⟨y,0,none⟩),.pointer (some ⟨z,0,none⟩)]) 0).run Tryz.prog w = .ok (.pointer (some ⟨x,0,none⟩)) w:=fun _=>by kernel_rfl
theorem aID (x y z:Nat):∀ w:World,(Instr.field 109 (.agg #[.pointer (some ⟨x,0,none⟩),.pointer (some ⟨y,0,none⟩),.pointer (some ⟨z,0,none⟩)]) 1).run Tryz.prog w = .ok (.pointer (some ⟨y,0,none⟩)) w:=fun _=>by kernel_rfl
theorem aEJ (x y z:Nat):∀ w:World,(Instr.field 109 (.agg #[.pointer (some ⟨x,0,none⟩),.pointer (some ⟨y,0,none⟩),.pointer (some ⟨z,0,none⟩)]) 2).run Tryz.prog w = .ok (.pointer (some ⟨z,0,none⟩)) w:=fun _=>by kernel_rfl
set_option maxRecDepth 20000 in
theorem qU {w:World} {b:VB} {ev fv:Value} {el:bE} {D:aA} {V:cB} (h:aV w b ev fv el D V) :
  Calls Tryz.prog 106 #[.pointer (some ⟨b.vb,0,none⟩)] w fun e w'=>e = .returned (.agg #[.pointer (some ⟨b.bb,0,none⟩),.pointer (some ⟨b.sb,0,none⟩),.pointer (some ⟨b.lb,0,none⟩)]) /\ Below w.heap.size w w':=by
 have c0:=h.c0
 have c1:=h.c1
 have c2:=h.c2
 have hlt:=h.lt
 obtain ⟨vb,bb,sb,lb,db,mb,tb,xq⟩:=b
 simp only at c0 c1 c2 hlt ⊢
 clear h
 go_enter Tryz.func106,Tryz.ntmps106
 go_wp2_with fail
 refine bodyPost_ret (v:=.agg #[.pointer (some ⟨bb,0,none⟩),.pointer (some ⟨sb,0,none⟩),.pointer (some ⟨lb,0,none⟩)]) (by simp [results,Tryz.results106,go_sem]) rfl ?_
 exact ⟨rfl,(Below.refl _ _).alloc (Nat.le_refl _) _⟩
theorem aBR {w:World} {b:VB} {ev fv:Value} {el:bE} {D:aA} {V:cB} (h:aV w b ev fv el D V) :
  Calls Tryz.prog 102 #[.pointer (some ⟨b.vb,0,none⟩)] w fun e w'=>e = .returned (.int .i64 (if V.br then 50 else 0)) /\ w = w':=by
 have c0:=h.c0
 have c3:=h.c3
 obtain ⟨vb,bb,sb,lb,db,mb,tb,xq⟩:=b
 obtain ⟨t,v,s,L,br⟩:=V
 simp only at c0 c3 ⊢
 clear h
 cases br
 ·go_enter Tryz.func102,Tryz.ntmps102
  go_wp2_with fail
  go_ret
  exact ⟨rfl,rfl⟩
 ·go_enter Tryz.func102,Tryz.ntmps102
  go_wp2_with fail
  go_ret
  exact ⟨rfl,rfl⟩
theorem gZ {w:World} {b:VB} {ev fv:Value} {el:bE} {D:aA} {V:cB} (h:aV w b ev fv el D V) (n:Nat) :
  Calls Tryz.prog 103 #[.pointer (some ⟨b.vb,0,none⟩),.int .i64 n] w fun e w'=>e = .returned (.int .i64 n) /\ aV w' b ev fv el D { V with br:=V.br || decide (n = 50) } /\ Kept w w' (fun k=>k = b.vb):=by
 have HH:=hid h
 have c3:=h.c3
 have f3:=h.f3
 clear h
 cases hbr:V.br with
 | true =>
  rw [hbr] at c3
  clear hbr
  have FIN:=hid (HH.out.aJM true)
  have K:=hid (Kept.setCell w ⟨b.vb,3,none⟩ (.bool true))
  obtain ⟨vb,bb,sb,lb,db,mb,tb,xq⟩:=b
  simp only at c3 f3 ⊢
  go_enter Tryz.func103,Tryz.ntmps103
  go_wp2_with fail
  go_ret
  exact ⟨rfl,FIN.out,K.out⟩
 | false =>
  rw [hbr] at c3
  clear hbr
  obtain ⟨x,hx⟩:∃ x,decide (n = 50) = x:=⟨_,rfl⟩
  have hb:((n:Int) == 50) = x:=by rw [<- hx,Bool.eq_iff_iff,beq_iff_eq,decide_eq_true_iff];omega
  have FIN:=hid (HH.out.aJM x)
  have K:=hid (Kept.setCell w ⟨b.vb,3,none⟩ (.bool x))
  rw [hx,Bool.false_or]
  obtain ⟨vb,bb,sb,lb,db,mb,tb,xq⟩:=b
  simp only at c3 f3 ⊢
  clear hx
  go_enter Tryz.func103,Tryz.ntmps103
  go_wp2_with fail
  go_ret
  exact ⟨rfl,FIN.out,K.out⟩
theorem aEI {w:World} {b:VB} {ev fv:Value} {el:bE} {D:aA} {V:cB} (h:aV w b ev fv el D V) :
  Calls Tryz.prog 43 #[.pointer (some ⟨b.vb,0,none⟩)] w fun e w'=>e = .returned (.bool V.br) /\ w = w':=by
 have c3:=h.c3
 obtain ⟨vb,bb,sb,lb,db,mb,tb,xq⟩:=b
 simp only at c3 ⊢
 clear h
 go_enter Tryz.func43,Tryz.ntmps43
 go_wp2_with fail
 go_ret
 exact ⟨rfl,rfl⟩
set_option maxRecDepth 20000 in
theorem aIG {w:World} {b:VB} {ev fv:Value} {el:bE} {D:aA} {V:cB} (h:aV w b ev fv el D V) (hl:(V.L.last:Int) < 18446744073709551616) :
  Calls Tryz.prog 45 #[.pointer (some ⟨b.vb,0,none⟩)] w fun e w'=>e = .returned (.int .u64 V.L.last) /\ Below w.heap.size w w':=by
 have HH:=hid h
 have HLL:=hid hl
 clear h hl
 obtain ⟨vb,bb,sb,lb,db,mb,tb,xq⟩:=b
 simp only
 go_enter Tryz.func45,Tryz.ntmps45
 go_wp2_with fail
 refine (qU HH.out).mono ?_
 rintro e w1 ⟨rfl,hb1⟩
 dsimp only
 have hfd:=aEJ bb sb lb
 have B1:=hid hb1
 clear hb1
 go_wp2_with fail
 refine (iI (HH.out.below B1.out).log HLL.out).mono ?_
 rintro e w2 ⟨rfl,hb2⟩
 have B2:Hid (Below w.heap.size w w2):=hid (B1.out.trans (hb2.mono B1.out.size))
 clear hb2
 go_wp2_with fail
 go_ret
 exact ⟨rfl,B2.out⟩
set_option maxRecDepth 20000 in
theorem aIE {w:World} {b:VB} {ev fv:Value} {el:bE} {D:aA} {V:cB} (h:aV w b ev fv el D V) (hl:V.L.last <= H59) (hn:V.L.es.length <= 2147483648) (index:Nat) (hi:(index:Int) < 18446744073709551616) (most:Int) (hmo:most <= 9223372036854775807) :
  Calls Tryz.prog 52 #[.pointer (some ⟨b.vb,0,none⟩),.int .u64 index,.int .i64 most] w (aJD V.L index most w):=by
 have HH:=hid h
 have HLL:=hid hl
 have HN:=hid hn
 have HI:=hid hi
 have HM:=hid hmo
 clear h hl hn hi hmo
 obtain ⟨vb,bb,sb,lb,db,mb,tb,xq⟩:=b
 simp only
 go_enter Tryz.func52,Tryz.ntmps52
 go_wp2_with fail
 refine (qU HH.out).mono ?_
 rintro e w1 ⟨rfl,hb1⟩
 dsimp only
 have hfd:=aEJ bb sb lb
 have B1:=hid hb1
 clear hb1
 go_wp2_with fail
 refine (aKS (HH.out.below B1.out).log HLL.out HN.out index HI.out most HM.out).mono ?_
 rintro e w2 ⟨v',l',rfl,ho,hm,hd,hn2,hb2⟩
 obtain ⟨a2,n2,c2,rfl⟩:=eH ho
 go_wp2_with fail
 go_ret
 exact ⟨_,l',rfl,ho,hm,hd.mono fun p hp k _ hk=>Nat.lt_of_lt_of_le hk B1.out.size,fun k hk=>Nat.le_trans B1.out.size (hn2 k hk),B1.out.trans (hb2.mono B1.out.size)⟩
set_option maxRecDepth 20000 in
theorem vN {w:World} {b:VB} {ev fv:Value} {el:bE} {D:aA} {V:cB} (h:aV w b ev fv el D V) :
  Calls Tryz.prog 51 #[.pointer (some ⟨b.vb,0,none⟩)] w fun e w'=>e = .returned (.agg #[.int .u64 V.t,.int .i64 V.v]) /\ Below w.heap.size w w':=by
 have HH:=hid h
 clear h
 obtain ⟨vb,bb,sb,lb,db,mb,tb,xq⟩:=b
 simp only
 go_enter Tryz.func51,Tryz.ntmps51
 go_wp2_with fail
 generalize hW1:World.alloc w _ = W1
 have A1:Hid (Below w.heap.size w W1):=hid (by subst hW1;exact (Below.refl _ _).alloc (Nat.le_refl _) _)
 have X1:Hid (SC W1 w.heap.size 0 0):=hid (by subst hW1;exact SC.box w 0 0)
 clear hW1
 refine (qU (HH.out.below A1.out)).mono ?_
 rintro e w1 ⟨rfl,hb1⟩
 dsimp only
 have hfd:=aKl bb sb lb
 have B1:Hid (Below w.heap.size w w1):=hid (A1.out.trans (hb1.mono A1.out.size))
 have X2:=hid (X1.out.below hb1)
 clear hb1
 go_wp2_with fail
 refine (aEO bb db V.t V.v w1 (HH.out.below B1.out).book).mono ?_
 rintro e w2 ⟨rfl,hb2⟩
 have B2:Hid (Below w.heap.size w w2):=hid (B1.out.trans (hb2.mono B1.out.size))
 have X3:=hid (X2.out.below hb2)
 obtain ⟨x0,x1,f0,f1⟩:=X3.out
 clear hb2
 go_wp2_with fail
 have X4:=X3.out.set V.t V.v
 obtain ⟨r0,r1,_,_⟩:=X4
 refine bodyPost_ret (v:=.agg #[.int .u64 V.t,.int .i64 V.v]) (by simp [results,Tryz.results51,go_sem,r0,r1]) rfl ?_
 exact ⟨rfl,B2.out.trans ((Kept.kV w2 w.heap.size (.int .u64 V.t) (.int .i64 V.v)).below B2.out.size fun k e=>by omega)⟩

theorem cG.sH {w:World} {i t:Int} {mv dv:Value} {s:aZ} (h:cG w (.agg #[.int .u64 i,.int .u64 t,mv,dv]) s):i = s.i /\ t = s.t /\ (∃ a n c,mv = .slice a n c) /\ ∃ a n c,dv = .slice a n c:=by
 obtain ⟨m,d,e,h1,h2⟩:=h
 simp only [Value.agg.injEq,Array.mk.injEq,List.cons.injEq,Value.int.injEq,true_and,and_true] at e
 obtain ⟨e1,e2,rfl,rfl⟩:=e
 obtain ⟨a,c,e3,_⟩:=h1.shape
 obtain ⟨a',c',e4,_⟩:=h2.shape
 exact ⟨e1,e2,⟨_,_,_,e3⟩,⟨_,_,_,e4⟩⟩
set_option maxRecDepth 20000 in
theorem aBQ {w:World} {b:VB} {ev fv:Value} {el:bE} {D:aA} {V:cB} (h:aV w b ev fv el D V) :
  Calls Tryz.prog 47 #[.pointer (some ⟨b.vb,0,none⟩)] w (aKu V.s w):=by
 have HH:=hid h
 clear h
 obtain ⟨vb,bb,sb,lb,db,mb,tb,xq⟩:=b
 simp only
 go_enter Tryz.func47,Tryz.ntmps47
 go_wp2_with fail
 generalize hW1:World.alloc w _ = W1
 have A1:Hid (Below w.heap.size w W1):=hid (by subst hW1;exact (Below.refl _ _).alloc (Nat.le_refl _) _)
 have X1:Hid (bX W1 w.heap.size 0 0 (.slice none 0 0) (.slice none 0 0)):=hid (by subst hW1;exact bX.new w)
 clear hW1
 refine (qU (HH.out.below A1.out)).mono ?_
 rintro e w1 ⟨rfl,hb1⟩
 dsimp only
 have hfd:=aID bb sb lb
 have B1:Hid (Below w.heap.size w w1):=hid (A1.out.trans (hb1.mono A1.out.size))
 have X2:=hid (X1.out.below hb1)
 clear hb1
 go_wp2_with fail
 refine (aC1 (some ⟨sb,0,none⟩) db mb tb V.s w1 (.inr ⟨sb,rfl,(HH.out.below B1.out).store.is,HH.out.sok⟩)).mono ?_
 rintro e w2 ⟨i,t,mv,dv,rfl,hs,hb2⟩
 obtain ⟨rfl,rfl,⟨am,nm,cm,rfl⟩,⟨ad,nd,cd,rfl⟩⟩:=hs.sH
 have HS:=hid hs
 have B2:Hid (Below w.heap.size w w2):=hid (B1.out.trans (hb2.mono B1.out.size))
 have X3:=hid (X2.out.below hb2)
 obtain ⟨q0,q1,q2,q3,g0,g1,g2,g3⟩:=X3.out
 clear hb2 hs hfd
 go_wp2_with fail
 generalize hwF:World.setCell _ _ _ = wF
 have RF:Hid (bX wF w.heap.size V.s.i V.s.t (.slice am nm cm) (.slice ad nd cd)):=hid (by subst hwF;exact X3.out.iE _ _ _ _)
 have BF:Hid (Below w.heap.size w wF):=hid (by subst hwF;exact B2.out.trans ((Kept.iE w2 w.heap.size _ _ _ _).below B2.out.size (fun k hk=>by omega)))
 have SF:Hid (cG wF (.agg #[.int .u64 V.s.i,.int .u64 V.s.t,.slice am nm cm,.slice ad nd cd]) V.s):=hid (by subst hwF;exact cG.iE X3.out HS.out _ _ _ _)
 clear hwF q0 q1 q2 q3 g0 g1 g2 g3
 obtain ⟨q0,q1,q2,q3,_,_,_,_⟩:=RF.out
 refine bodyPost_ret (v:=.tuple #[.agg #[.int .u64 V.s.i,.int .u64 V.s.t,.slice am nm cm,.slice ad nd cd],.bool (decide (0 < V.s.i))]) (by simp [results,Tryz.results47,go_sem,q0,q1,q2,q3]) rfl ?_
 exact ⟨_,_,_,_,rfl,SF.out,BF.out⟩
set_option maxRecDepth 20000 in
theorem uA {w:World} {b:VB} {ev fv:Value} {el:bE} {D:aA} {V:cB} (h:aV w b ev fv el D V) :
  Calls Tryz.prog 50 #[.pointer (some ⟨b.vb,0,none⟩)] w fun e w'=>e = .returned (.int .u64 V.s.i) /\ Below w.heap.size w w':=by
 have HH:=hid h
 clear h
 obtain ⟨vb,bb,sb,lb,db,mb,tb,xq⟩:=b
 simp only
 go_enter Tryz.func50,Tryz.ntmps50
 go_wp2_with fail
 refine (aBQ HH.out).mono ?_
 rintro e w1 ⟨i,t,mv,dv,rfl,hs,hb1⟩
 obtain ⟨rfl,rfl,⟨am,nm,cm,rfl⟩,⟨ad,nd,cd,rfl⟩⟩:=hs.sH
 have B1:=hid hb1
 clear hb1 hs
 go_wp2_with fail
 go_ret
 exact ⟨rfl,B1.out.alloc B1.out.size _⟩
def atW (L:aM) (index:Nat):Option bR:=if index <= L.b then none else L.es[index - L.b - 1]?
def AtP (o:Option bR) (w:World):Ending -> World -> Prop:=fun e w'=>∃ a n c,e = .returned (.tuple #[.agg #[.int .u64 (o.getD ⟨0,0,[]⟩).t,.int .i64 (o.getD ⟨0,0,[]⟩).k,.slice a n c],.bool o.isSome]) /\ Bytes w' (.slice a n c) (o.getD ⟨0,0,[]⟩).d /\ (∀ b,(Value.slice a n c).ownBlock = some b -> w.heap.size <= b) /\ Below w.heap.size w w'
theorem aFt {lb db mb tb:Nat} {ev fv:Value} {el:bE} {D:aA} {L:aM} {w:World} (h:bD w lb db mb tb ev fv el D L) (hl:L.last <= H59) (hn:L.es.length <= 2147483648) (index:Nat) :
  Calls Tryz.prog 13 #[.pointer (some ⟨lb,0,none⟩),.int .u64 index] w (AtP (atW L index) w):=by
 have hlast:L.last = L.b + L.es.length:=rfl
 unfold atW
 by_cases hi:index <= L.b
 ·rw [if_pos hi]
  refine (aII h hl index (.inl hi)).mono ?_
  rintro e w1 ⟨rfl,hb⟩
  exact ⟨none,0,0,rfl,Bytes.nil _,fun b hb=>by simp [Value.ownBlock] at hb,hb⟩
 ·rw [if_neg hi]
  cases hx:L.es[index - L.b - 1]? with
  | none =>
   have:=List.getElem?_eq_none_iff.1 hx
   refine (aII h hl index (.inr (by omega))).mono ?_
   rintro e w1 ⟨rfl,hb⟩
   exact ⟨none,0,0,rfl,Bytes.nil _,fun b hb=>by simp [Value.ownBlock] at hb,hb⟩
  | some x =>
   refine (aJy h hl hn index (by omega) hx).mono ?_
   rintro e w1 ⟨dv,rfl,hB,hN,hb⟩
   obtain ⟨a,c,rfl,_⟩:=hB.shape
   exact ⟨a,_,c,rfl,hB,hN,hb⟩
set_option maxRecDepth 20000 in
theorem aKk {w:World} {b:VB} {ev fv:Value} {el:bE} {D:aA} {V:cB} (h:aV w b ev fv el D V) (hl:V.L.last <= H59) (hn:V.L.es.length <= 2147483648) (index:Nat) :
  Calls Tryz.prog 46 #[.pointer (some ⟨b.vb,0,none⟩),.int .u64 index] w (AtP (atW V.L index) w):=by
 have HH:=hid h
 have HLL:=hid hl
 have HN:=hid hn
 clear h hl hn
 obtain ⟨vb,bb,sb,lb,db,mb,tb,xq⟩:=b
 simp only
 go_enter Tryz.func46,Tryz.ntmps46
 go_wp2_with fail
 generalize hW1:World.alloc w _ = W1
 have A1:Hid (Below w.heap.size w W1):=hid (by subst hW1;exact (Below.refl _ _).alloc (Nat.le_refl _) _)
 have X1:Hid (EC W1 w.heap.size 0 0 (.slice none 0 0)):=hid (by subst hW1;exact EC.box w)
 clear hW1
 refine (qU (HH.out.below A1.out)).mono ?_
 rintro e w1 ⟨rfl,hb1⟩
 dsimp only
 have hfd:=aEJ bb sb lb
 have B1:Hid (Below w.heap.size w w1):=hid (A1.out.trans (hb1.mono A1.out.size))
 have X2:=hid (X1.out.below hb1)
 clear hb1
 go_wp2_with fail
 refine (aFt (HH.out.below B1.out).log HLL.out HN.out index).mono ?_
 rintro e w2 ⟨a,n,c,rfl,hB,hN,hb2⟩
 have HB:=hid hB
 have HNN:Hid (∀ b,(Value.slice a n c).ownBlock = some b -> w.heap.size < b):=hid fun b hb=>Nat.lt_of_lt_of_le X2.out.lt (hN b hb)
 have B2:Hid (Below w.heap.size w w2):=hid (B1.out.trans (hb2.mono B1.out.size))
 have X3:=hid (X2.out.below hb2)
 obtain ⟨q0,q1,q2,g0,g1,g2⟩:=X3.out
 clear hb2 hB hN hfd
 go_wp2_with fail
 have E3:=(X3.out.set ((atW V.L index).getD ⟨0,0,[]⟩).t ((atW V.L index).getD ⟨0,0,[]⟩).k).put (.slice a n c)
 have K3:=EC.oV w2 w.heap.size (.int .u64 ((atW V.L index).getD ⟨0,0,[]⟩).t) (.int .i64 ((atW V.L index).getD ⟨0,0,[]⟩).k) (.slice a n c)
 obtain ⟨r0,r1,r2,_,_,_⟩:=E3
 refine bodyPost_ret (v:=.tuple #[.agg #[.int .u64 ((atW V.L index).getD ⟨0,0,[]⟩).t,.int .i64 ((atW V.L index).getD ⟨0,0,[]⟩).k,.slice a n c],.bool (atW V.L index).isSome]) (by simp [results,Tryz.results46,go_sem,r0,r1,r2]) rfl ?_
 exact ⟨a,n,c,rfl,HB.out.kept K3 (fun b hb e=>by have:=HNN.out b hb;omega),fun b hb=>Nat.le_of_lt (HNN.out b hb),B2.out.trans (K3.below B2.out.size fun k e=>by omega)⟩

def hE (b:VB) (ev fv:Value) (r:aA × cB × Nat) (w:World):Ending -> World -> Prop:=fun e w' =>
 e = .returned (.int .i64 r.2.2) /\ ∃ ev' fv' el',aV w' b ev' fv' el' r.1 r.2.1 /\ cN b w ev fv w' ev' fv'
theorem cN.told {b:VB} {w w':World} {ev fv:Value} (h:Kept w w' (fun k=>k = b.vb)):cN b w ev fv w' ev fv:=⟨h.mono fun _ _ e=>.inl e,fun _ h=>.inl h,fun _ h=>.inl h⟩
theorem iU {w:World} {b:VB} {ev fv:Value} {el:bE} {D:aA} {V:cB} (h:aV w b ev fv el D V) (hb:V.br = false) :
  Calls Tryz.prog 102 #[.pointer (some ⟨b.vb,0,none⟩)] w fun e w'=>e = .returned (.int .i64 0) /\ w = w':=by
 refine (aBR h).mono ?_
 rw [hb]
 exact fun e w' h=>h
def dW (D:aA) (V:cB) (ms:List bR):aA × cB × Nat :=
 if V.br = true then (D,V,50)
 else if (aR D V.L ms).2.2 ≠ 0 then ((aR D V.L ms).1,{ V with L:=(aR D V.L ms).2.1,br:=decide ((aR D V.L ms).2.2 = 50) },(aR D V.L ms).2.2)
 else ((bJ (aR D V.L ms).1 (aR D V.L ms).2.1).1,{ V with L:=(bJ (aR D V.L ms).1 (aR D V.L ms).2.1).2.1,br:=decide ((bJ (aR D V.L ms).1 (aR D V.L ms).2.1).2.2 = 50) },(bJ (aR D V.L ms).1 (aR D V.L ms).2.1).2.2)
def sZ (D:aA) (V:cB) (frm:Nat):aA × cB × Nat :=
 if V.br = true then (D,V,50) else if (frm:Int) <= V.s.i then (D,V,2)
 else ((fY D V.L frm).1,{ V with L:=(fY D V.L frm).2.1,br:=decide ((fY D V.L frm).2.2 = 50) },(fY D V.L frm).2.2)
theorem aV.end {w w' w2:World} {b:VB} {ev fv ev' fv':Value} {el':bE} {D':aA} {V:cB} {L':aM} {n:Nat} (hb:V.br = false) (hs:cN b w ev fv w' ev' fv')
  (ht:aV w2 b ev' fv' el' D' { V with L:=L',br:=V.br || decide (n = 50) }) (hk:Kept w' w2 (fun k=>k = b.vb)):hE b ev fv (D',{ V with L:=L',br:=decide (n = 50) },n) w (.returned (.int .i64 n)) w2:=by
 rw [hb,Bool.false_or] at ht
 exact ⟨rfl,ev',fv',el',ht,hs.trans (cN.told hk)⟩
set_option maxRecDepth 20000 in
theorem zW {w:World} {b:VB} {ev fv mv:Value} {el ml:bE} {D:aA} {V:cB} (h:aV w b ev fv el D V) (hi:jQ D V.L) (hst:D.steps + 200 <= 1000000000) (hm:qW w (jR b.lb b.db b.mb b.tb ev fv) mv ml) (hf:Few ml) (hb:V.br = false) :
  Calls Tryz.prog 42 #[.pointer (some ⟨b.vb,0,none⟩),mv] w (hE b ev fv (dW D V (ml.map (·.1))) w):=by
 obtain ⟨P,hinv⟩:=hi.inv
 have hlaw:=rR hinv hi.up hi.ris (ml.map (·.1))
 have hre:=(oG D V.L (ml.map (·.1))).fB hi.fB (by omega)
 have HH:=hid h
 have HB:=hid hb
 have HI:=hid hi
 have HIN:=hid hinv
 have HST:Hid (D.steps + 1 <= 1000000000):=hid (by omega)
 have HF:=hid hf
 have HM:=hid hm
 have c2:=h.c2
 have HR:Hid (dW D V (ml.map (·.1)) = if (aR D V.L (ml.map (·.1))).2.2 ≠ 0 then ((aR D V.L (ml.map (·.1))).1,{ V with L:=(aR D V.L (ml.map (·.1))).2.1,br:=decide ((aR D V.L (ml.map (·.1))).2.2 = 50) },(aR D V.L (ml.map (·.1))).2.2)
   else ((bJ (aR D V.L (ml.map (·.1))).1 (aR D V.L (ml.map (·.1))).2.1).1,{ V with L:=(bJ (aR D V.L (ml.map (·.1))).1 (aR D V.L (ml.map (·.1))).2.1).2.1,br:=decide ((bJ (aR D V.L (ml.map (·.1))).1 (aR D V.L (ml.map (·.1))).2.1).2.2 = 50) },(bJ (aR D V.L (ml.map (·.1))).1 (aR D V.L (ml.map (·.1))).2.1).2.2)):=hid (by unfold dW;rw [if_neg (by rw [hb];decide)])
 obtain ⟨ma,mc,rfl,_⟩:=hm.row.shape
 obtain ⟨r,hr⟩:∃ r,aR D V.L (ml.map (·.1)) = r:=⟨_,rfl⟩
 have WA:=hid (aDq h.log hinv hi.fB (by omega) hm hf)
 rw [hr] at HR WA hlaw hre
 obtain ⟨D1,L1,n⟩:=r
 dsimp only at HR hlaw hre
 have c2':∀ w' ev' fv',aS b.lb b.db b.mb b.tb w ev fv w' ev' fv' -> w'.cell? ⟨b.vb,2,none⟩ = some (.pointer (some ⟨b.lb,0,none⟩)):=fun _ _ _ hs=>hs.1.cell h.c2 h.nv
 have C2:=hid c2'
 by_cases hn:n = 0
 ·subst hn
  rw [if_neg (by decide)] at HR
  have hup:mU (D1,L1,0):=hlaw.resolve_right fun q=>by cases q.2.1
  obtain ⟨u1,u2,P1,hinv1⟩:=hup
  have HX:=hid hre.1.wf
  have HOK:=hid (hinv1.lok hre.1).1
  have HFW:Hid (L1.fs.length <= 1000000):=hid (by have:=hinv1.few hre.1;dsimp only at this;omega)
  have HE:=hid hinv1.empty
  clear h hi hst hm hf hb hinv hlaw hre hr u1 u2 c2' HI HIN HST HF HM
  dsimp only at HOK HE
  obtain ⟨vb,bb,sb,lb,db,mb,tb,xq⟩:=b
  dsimp only at WA C2 c2 ⊢
  go_enter Tryz.func42,Tryz.ntmps42
  go_wp2_with fail
  refine (iU HH.out HB.out).mono ?_
  rintro e w1 ⟨rfl,rfl⟩
  dsimp only
  go_wp2_with fail
  refine WA.out.mono ?_
  rintro e w1 ⟨rfl,ev1,fv1,el1,hl1,hs1⟩
  have LS:=hid hs1
  have H1:=hid (HH.out.kT hl1 hs1)
  have c21:=C2.out _ _ _ hs1
  clear hl1 hs1 c2
  dsimp only
  go_wp2_with fail
  refine (aJO H1.out.log HX.out HOK.out HFW.out HE.out).mono ?_
  rintro e w2 ⟨rfl,ev2,fv2,el2,hl2,hs2⟩
  have H2:=hid (H1.out.kT hl2 hs2)
  have VS:=hid ((cN.kU (b:=⟨vb,bb,sb,lb,db,mb,tb,xq⟩) LS.out).trans (cN.kU (b:=⟨vb,bb,sb,lb,db,mb,tb,xq⟩) hs2))
  clear hl2 hs2 c21
  dsimp only
  go_wp2_with fail
  refine (gZ H2.out _).mono ?_
  rintro e w3 ⟨rfl,hv3,hk3⟩
  have FIN:=hid (aV.end HB.out VS.out hv3 hk3)
  clear hv3 hk3
  dsimp only
  go_wp2_with fail
  go_ret
  rw [HR.out]
  exact FIN.out
 ·rw [if_pos hn] at HR
  have hx:((n:Int) == 0) = false:=beq_eq_false_iff_ne.2 (by omega)
  clear h hi hst hm hf hb hinv hlaw hre hr c2' HI HIN HST HF HM hn C2
  obtain ⟨vb,bb,sb,lb,db,mb,tb,xq⟩:=b
  dsimp only at WA c2 ⊢
  go_enter Tryz.func42,Tryz.ntmps42
  go_wp2_with fail
  refine (iU HH.out HB.out).mono ?_
  rintro e w1 ⟨rfl,rfl⟩
  dsimp only
  go_wp2_with fail
  refine WA.out.mono ?_
  rintro e w1 ⟨rfl,ev1,fv1,el1,hl1,hs1⟩
  have H1:=hid (HH.out.kT hl1 hs1)
  have VS:=hid (cN.kU (b:=⟨vb,bb,sb,lb,db,mb,tb,xq⟩) hs1)
  clear hl1 hs1 c2
  dsimp only
  go_wp2_with fail
  refine (gZ H1.out n).mono ?_
  rintro e w3 ⟨rfl,hv3,hk3⟩
  have FIN:=hid (aV.end HB.out VS.out hv3 hk3)
  clear hv3 hk3
  dsimp only
  go_wp2_with fail
  go_ret
  rw [HR.out]
  exact FIN.out
theorem hE.back {b:VB} {ev fv:Value} {r:aA × cB × Nat} {w w0 w':World} {E:Ending} (h:hE b ev fv r w0 E w') (hb:Below w.heap.size w w0):hE b ev fv r w E w':=by
 obtain ⟨e,ev',fv',el',h1,h2⟩:=h
 exact ⟨e,ev',fv',el',h1,(cN.below hb).trans h2⟩
set_option maxRecDepth 20000 in
theorem aJx {w:World} {b:VB} {ev fv:Value} {el:bE} {D:aA} {V:cB} (h:aV w b ev fv el D V) (hi:jQ D V.L) (hst:D.steps + 200 <= 1000000000) (frm:Nat) (hfr:(frm:Int) < 18446744073709551616) (hb:V.br = false) :
  Calls Tryz.prog 104 #[.pointer (some ⟨b.vb,0,none⟩),.int .u64 frm] w (hE b ev fv (sZ D V frm) w):=by
 have HH:=hid h
 have HB:=hid hb
 have HI:=hid hi
 have HST:=hid hst
 have HFR:=hid hfr
 have hb2:¬ V.br = true:=by rw [hb];decide
 by_cases hc:(frm:Int) <= V.s.i
 ·have HR:Hid (sZ D V frm = (D,V,2)):=hid (by unfold sZ;rw [if_neg hb2,if_pos hc])
  have hx:decide ((frm:Int) <= V.s.i) = true:=decide_eq_true hc
  clear h hi hst hfr hb hb2 hc
  obtain ⟨vb,bb,sb,lb,db,mb,tb,xq⟩:=b
  simp only
  go_enter Tryz.func104,Tryz.ntmps104
  go_wp2_with fail
  refine (iU HH.out HB.out).mono ?_
  rintro e w1 ⟨rfl,rfl⟩
  dsimp only
  go_wp2_with fail
  refine (uA HH.out).mono ?_
  rintro e w1 ⟨rfl,hb1⟩
  have B1:=hid hb1
  clear hb1
  dsimp only
  go_wp2_with fail
  go_ret
  rw [HR.out]
  exact ⟨rfl,ev,fv,el,HH.out.below B1.out,cN.below B1.out⟩
 ·have HR:Hid (sZ D V frm = ((fY D V.L frm).1,{ V with L:=(fY D V.L frm).2.1,br:=decide ((fY D V.L frm).2.2 = 50) },(fY D V.L frm).2.2)):=hid (by unfold sZ;rw [if_neg hb2,if_neg hc])
  have hx:decide ((frm:Int) <= V.s.i) = false:=decide_eq_false hc
  clear h hi hst hfr hb hb2 hc
  obtain ⟨vb,bb,sb,lb,db,mb,tb,xq⟩:=b
  simp only
  go_enter Tryz.func104,Tryz.ntmps104
  go_wp2_with fail
  refine (iU HH.out HB.out).mono ?_
  rintro e w1 ⟨rfl,rfl⟩
  dsimp only
  go_wp2_with fail
  refine (uA HH.out).mono ?_
  rintro e w1 ⟨rfl,hb1⟩
  have B1:=hid hb1
  have H1:=hid (HH.out.below hb1)
  have c2:=H1.out.c2
  clear hb1
  dsimp only at c2 ⊢
  go_wp2_with fail
  refine (aLd H1.out.log HI.out HST.out frm HFR.out).mono ?_
  rintro e w2 ⟨rfl,ev2,fv2,el2,hl2,hs2⟩
  have H2:=hid (H1.out.kT hl2 hs2)
  have VS:=hid ((cN.below (b:=⟨vb,bb,sb,lb,db,mb,tb,xq⟩) (ev:=ev) (fv:=fv) B1.out).trans (cN.kU (b:=⟨vb,bb,sb,lb,db,mb,tb,xq⟩) hs2))
  clear hl2 hs2 c2
  dsimp only
  go_wp2_with fail
  refine (gZ H2.out _).mono ?_
  rintro e w3 ⟨rfl,hv3,hk3⟩
  have FIN:=hid (aV.end HB.out VS.out hv3 hk3)
  clear hv3 hk3
  dsimp only
  go_wp2_with fail
  go_ret
  rw [HR.out]
  exact FIN.out

def oU (D:aA) (V:cB) (t v:Int):aA × cB × Nat :=
 if V.br = true then (D,V,50)
 else ((dG D V.t V.v t v).1,{ V with t:=if (dG D V.t V.v t v).2 = 0 then t else V.t,v:=if (dG D V.t V.v t v).2 = 0 then v else V.v,br:=decide ((dG D V.t V.v t v).2 = 50) },(dG D V.t V.v t v).2)
theorem cN.aHT {b:VB} {w w':World} {ev fv:Value} (h:Kept w w' (fun k=>bB b.db b.mb b.tb k \/ k = b.bb)):cN b w ev fv w' ev fv :=
 ⟨h.mono fun _ _ e=>e.elim (fun e=>.inr (.inr (.inr (.inr (.inl e))))) (fun e=>.inr (.inl e)),fun _ h=>.inl h,fun _ h=>.inl h⟩
theorem aV.aK1 {w w' w2:World} {b:VB} {ev fv ev' fv':Value} {el':bE} {D':aA} {V:cB} {t v:Int} {n:Nat} (hb:V.br = false) (hs:cN b w ev fv w' ev' fv')
  (ht:aV w2 b ev' fv' el' D' { V with t:=t,v:=v,br:=V.br || decide (n = 50) }) (hk:Kept w' w2 (fun k=>k = b.vb)):hE b ev fv (D',{ V with t:=t,v:=v,br:=decide (n = 50) },n) w (.returned (.int .i64 n)) w2:=by
 rw [hb,Bool.false_or] at ht
 exact ⟨rfl,ev',fv',el',ht,hs.trans (cN.told hk)⟩
set_option maxRecDepth 20000 in
theorem aIF {w:World} {b:VB} {ev fv:Value} {el:bE} {D:aA} {V:cB} (h:aV w b ev fv el D V) (hg:aW D) (hst:D.steps + 4 <= 1000000000) (t' v':Int) (ht:0 <= t') (hb:V.br = false) :
  Calls Tryz.prog 105 #[.pointer (some ⟨b.vb,0,none⟩),.agg #[.int .u64 t',.int .i64 v']] w (hE b ev fv (oU D V t' v') w):=by
 have HH:=hid h
 have HB:=hid hb
 have HG:=hid hg
 have HST:=hid hst
 have HT:=hid ht
 have HR:Hid (oU D V t' v' = ((dG D V.t V.v t' v').1,{ V with t:=if (dG D V.t V.v t' v').2 = 0 then t' else V.t,v:=if (dG D V.t V.v t' v').2 = 0 then v' else V.v,br:=decide ((dG D V.t V.v t' v').2 = 50) },(dG D V.t V.v t' v').2)):=hid (by unfold oU;rw [if_neg (by rw [hb];decide)])
 have HNB:Hid (¬ bB b.db b.mb b.tb b.bb):=hid fun e=>h.nb.2 (.inr (.inl e))
 clear h hg hst ht hb
 obtain ⟨vb,bb,sb,lb,db,mb,tb,xq⟩:=b
 dsimp only at HNB ⊢
 go_enter Tryz.func105,Tryz.ntmps105
 go_wp2_with fail
 generalize hW1:World.alloc w _ = W1
 have B1:Hid (Below w.heap.size w W1):=hid (by subst hW1;exact (Below.refl _ _).alloc (Nat.le_refl _) _)
 have X1:Hid (SC W1 w.heap.size t' v'):=hid (by subst hW1;exact SC.box w t' v')
 have H1:=hid (HH.out.below B1.out)
 clear hW1
 refine (iU H1.out HB.out).mono ?_
 rintro e w1 ⟨rfl,rfl⟩
 dsimp only
 have ST:=aP.from W1
 have DR:Hid (Below W1.heap.size W1 W1.drew):=hid (Below.refl W1.heap.size W1).drew
 have HD:Hid (aG W1.drew db mb tb D):=hid (H1.out.below DR.out).log.dN
 have HB9:Hid (dK W1.drew bb db V.t V.v):=hid (H1.out.below DR.out).book
 go_wp2_with fail
 refine aN [0,0,2,6,14,30,0,126,255,511] 0 (fun w'=>Below W1.heap.size W1 w') (by kernel_rfl) ?_
 refine aB [0,1,2,3,4,5,6] (by kernel_rfl) (L:=bm 10 127) (by kernel_rfl) (f':=3) rfl (fun _ _ _ _ h=>h) (fun w o h=>ST.alloc h o) (.inr (by first | exact Below.refl _ _ | exact (Below.refl _ _).drew)) ?_
 simp only [sF,sL]
 iterate 7 (first | (refine aQ _ (by rfl) (fun w' hs=>by have c0:=(H1.out.below hs).c0;obtain ⟨x0,x1,_,_⟩:=X1.out.below hs;go_simp;try with_reducible rfl) rfl ?_;simp only [Act.put,sA]) | (refine aD _ (by rfl) (fun w'=>by go_simp;try with_reducible rfl) ?_;simp only [Act.put,sA]))
 refine aE ?_
 refine aI 7 (by kernel_rfl) (L:=bm 10 255) (by kernel_rfl) ?_
 simp only [sL]
 go_wp2_with fail;refine (aG0 bb db mb tb D V.t V.v t' v' W1.drew HD.out HG.out HST.out HB9.out HNB.out HT.out).mono ?_;rintro e w2 ⟨rfl,hd2,hb2,hk2⟩;have H2:Hid (aV w2 ⟨vb,bb,sb,lb,db,mb,tb,xq⟩ ev fv el _ _):=hid ((H1.out.below DR.out).aHT hd2 hb2 hk2);have VS:Hid (cN ⟨vb,bb,sb,lb,db,mb,tb,xq⟩ w ev fv w2 ev fv):=hid ((cN.below (B1.out.trans (DR.out.mono B1.out.size))).trans (cN.aHT hk2));clear hd2 hb2 hk2;dsimp only;go_wp2_with fail
 refine aF nofun ?_
 refine aI 8 (by kernel_rfl) (L:=bm 10 511) (by kernel_rfl) ?_
 simp only [sL]
 go_wp2_with fail;refine (gZ H2.out _).mono ?_;rintro e w3 ⟨rfl,hv3,hk3⟩;have FIN:=hid (aV.aK1 HB.out VS.out hv3 hk3);clear hv3 hk3;dsimp only;go_wp2_with fail
 refine aF nofun ?_
 refine aB [9] (by kernel_rfl) (L:=bm 10 1023) (by kernel_rfl) (f':=0) rfl (fun _ _ _ _ h=>h) (fun w o h=>ST.alloc h o) (.inl (by kernel_rfl)) ?_
 simp only [sF,sL]
 iterate 1 (refine aD _ (by rfl) (fun w'=>by go_simp;try with_reducible rfl) ?_;simp only [Act.put,sA])
 refine aE ?_
 refine aT (by kernel_rfl) ?_
 go_wp2_with fail
 go_ret
 rw [HR.out]
 exact FIN.out

def gV (D:aA) (V:cB) (x:aZ):aA × cB × Nat :=
 if V.br = true then (D,V,50)
 else if (cO D V.s x).2 ≠ 0 then ((cO D V.s x).1,{ V with br:=decide ((cO D V.s x).2 = 50) },(cO D V.s x).2)
 else if (atW V.L x.i.toNat).any (fun y=>y.t == x.t) = true then ((eI (cO D V.s x).1 V.L x.i.toNat).1,{ V with s:=x,L:=(eI (cO D V.s x).1 V.L x.i.toNat).2.1,br:=decide ((eI (cO D V.s x).1 V.L x.i.toNat).2.2 = 50) },(eI (cO D V.s x).1 V.L x.i.toNat).2.2)
 else ((bI (cO D V.s x).1 V.L x.i.toNat).1,{ V with s:=x,L:=(bI (cO D V.s x).1 V.L x.i.toNat).2.1,br:=decide ((bI (cO D V.s x).1 V.L x.i.toNat).2.2 = 50) },(bI (cO D V.s x).1 V.L x.i.toNat).2.2)
theorem cN.aCC {b:VB} {w w':World} {ev fv:Value} (h:Kept w w' (fun k=>bB b.db b.mb b.tb k \/ k = b.sb)):cN b w ev fv w' ev fv :=
 ⟨h.mono fun _ _ e=>e.elim (fun e=>.inr (.inr (.inr (.inr (.inl e))))) (fun e=>.inr (.inr (.inl e))),fun _ h=>.inl h,fun _ h=>.inl h⟩
theorem aV.off {w:World} {b:VB} {ev fv:Value} {el:bE} {D:aA} {V:cB} (h:aV w b ev fv el D V) {k:Nat} (hk:w.heap.size <= k):uD b.X b.vb b.bb b.lb b.db b.mb b.tb ev fv k :=
 ⟨fun e=>by have:=h.lt;omega,fun e=>by have:=h.book.lt;omega,fun e=>by have:=h.log.jV e;omega,h.xn k hk⟩
theorem aV.aDS {w w' w2:World} {b:VB} {ev fv ev' fv':Value} {el':bE} {D':aA} {V:cB} {s:aZ} {L':aM} {n:Nat} (hb:V.br = false) (hs:cN b w ev fv w' ev' fv')
  (ht:aV w2 b ev' fv' el' D' { V with s:=s,L:=L',br:=V.br || decide (n = 50) }) (hk:Kept w' w2 (fun k=>k = b.vb)):hE b ev fv (D',{ V with s:=s,L:=L',br:=decide (n = 50) },n) w (.returned (.int .i64 n)) w2:=by
 rw [hb,Bool.false_or] at ht
 exact ⟨rfl,ev',fv',el',ht,hs.trans (cN.told hk)⟩
set_option maxRecDepth 20000 in
theorem aEM {w:World} {b:VB} {ev fv:Value} {el:bE} {D:aA} {V:cB} (h:aV w b ev fv el D V) (hg:aW D) (hst:D.steps + 300 <= 1000000000) (hl:V.L.last <= H59) (hn:V.L.es.length <= 2147483648) (n:Nat) (xt:Int) (xms:List Int) (xd:List Nat) (am ad:Option Addr) (nm cm nd cd:Nat) (hn9:(n:Int) < 18446744073709551616)
  (hxk:∀ w',Kept w w' (gH b ev fv) -> cG w' (.agg #[.int .u64 n,.int .u64 xt,.slice am nm cm,.slice ad nd cd]) ⟨(n:Int),xt,xms,xd⟩) (hb:V.br = false)
  {m:Nat} (he:(cO D V.s ⟨(n:Int),xt,xms,xd⟩).2 = m) (hm:m ≠ 0) :
  Calls Tryz.prog 81 #[.pointer (some ⟨b.vb,0,none⟩),.agg #[.int .u64 n,.int .u64 xt,.slice am nm cm,.slice ad nd cd]] w (hE b ev fv (gV D V ⟨(n:Int),xt,xms,xd⟩) w):=by
 have HXN:Hid (¬ (bB b.db b.mb b.tb w.heap.size \/ w.heap.size = b.sb)):=hid fun e=>e.elim (fun e=>by have:=h.jV (k:=w.heap.size) (.inr (.inr (.inr (.inr (.inl e)))));omega) (fun e=>by have:=h.store.lt;omega)
 have HH:=hid h
 have HB:=hid hb
 have HG:=hid hg
 have HS4:Hid (D.steps + 4 <= 1000000000):=hid (by omega)
 have HXK:=hid hxk
 have HLL:=hid hl
 have HLN:=hid hn
 have HN9:=hid hn9
 have hb2:¬ V.br = true:=by rw [hb];decide
 have HR:Hid (gV D V ⟨(n:Int),xt,xms,xd⟩ = ((cO D V.s ⟨(n:Int),xt,xms,xd⟩).1,{ V with br:=decide (m = 50) },m)):=hid (by unfold gV;rw [if_neg hb2,if_pos (by rw [he];exact hm),he])
 have HM0:=hid hm
 have HE9:=hid he
 have HOK9:=hid h.sok
 have hx:((m:Int) == 0) = false:=beq_eq_false_iff_ne.2 (by omega)
 clear h hg hst hl hn hxk hb hb2 he hm hn9 HLL HLN HN9
 obtain ⟨vb,bb,sb,lb,db,mb,tb,xq⟩:=b
 dsimp only at HXN HXK ⊢
 go_enter Tryz.func81,Tryz.ntmps81
 go_wp2_with fail
 generalize hW1:World.alloc w _ = W1
 have B1:Hid (Below w.heap.size w W1):=hid (by subst hW1;exact (Below.refl _ _).alloc (Nat.le_refl _) _)
 have X1:Hid (bX W1 w.heap.size n xt (.slice am nm cm) (.slice ad nd cd)):=hid (by subst hW1;exact bX.box w _ _ _ _)
 have H1:=hid (HH.out.below B1.out)
 clear hW1
 refine (iU H1.out HB.out).mono ?_
 rintro e w1 ⟨rfl,rfl⟩
 dsimp only
 have ST:=aP.from W1
 have DR:Hid (Below W1.heap.size W1 W1.drew):=hid (Below.refl W1.heap.size W1).drew
 have BW:Hid (Below w.heap.size w W1.drew):=hid (B1.out.trans (DR.out.mono B1.out.size))
 have HD:Hid (aG W1.drew db mb tb D):=hid (H1.out.below DR.out).log.dN
 have HQ9:Hid (∀ k,W1.drew.heap.size <= k -> uD xq vb bb lb db mb tb ev fv k):=hid fun k hk=>(H1.out.below DR.out).off hk
 have HST9:Hid (cM (uD xq vb bb lb db mb tb ev fv) W1.drew sb db mb tb V.s):=hid (H1.out.below DR.out).store
 have HX9:Hid (cG W1.drew (.agg #[.int .u64 n,.int .u64 xt,.slice am nm cm,.slice ad nd cd]) ⟨(n:Int),xt,xms,xd⟩):=hid ((HXK.out w (Kept.refl _ _)).below BW.out)
 have HXK9:Hid (∀ w',Kept W1.drew w' (bB db mb tb) -> cG w' (.agg #[.int .u64 n,.int .u64 xt,.slice am nm cm,.slice ad nd cd]) ⟨(n:Int),xt,xms,xd⟩):=hid fun w' hk=>HXK.out w' ((Kept.aJ BW.out (S:=gH ⟨vb,bb,sb,lb,db,mb,tb,xq⟩ ev fv) fun k h1 h2=>by omega).trans (hk.mono fun _ _ e=>.inr (.inr (.inr (.inr (.inl e))))))
 go_wp2_with fail
 refine aN [0,1,3,7,15,0,63,127] 0 (fun w'=>Below W1.heap.size W1 w') (by kernel_rfl) ?_
 refine aB [0,1,2,3,4,5] (by kernel_rfl) (L:=bm 8 63) (by kernel_rfl) (f':=2) rfl (fun _ _ _ _ h=>h) (fun w o h=>ST.alloc h o) (.inr (by first | exact Below.refl _ _ | exact (Below.refl _ _).drew)) ?_
 simp only [sF,sL]
 iterate 6 (first | (refine aQ _ (by rfl) (fun w' hs=>by have c1:=(H1.out.below hs).c1;obtain ⟨x0,x1,x2,x3,_,_,_,_⟩:=X1.out.below hs;go_simp;try with_reducible rfl) rfl ?_;simp only [Act.put,sA]) | (refine aD _ (by rfl) (fun w'=>by go_simp;try with_reducible rfl) ?_;simp only [Act.put,sA]))
 refine aE ?_
 refine aI 6 (by kernel_rfl) (L:=bm 8 127) (by kernel_rfl) ?_
 simp only [sL]
 go_wp2_with fail;refine (zL (uD xq vb bb lb db mb tb ev fv) sb db mb tb V.s ⟨(n:Int),xt,xms,xd⟩ D _ W1.drew HQ9.out HST9.out HX9.out HXK9.out HD.out HG.out HS4.out).mono ?_;rintro e w2 ⟨rfl,hd2,hs2,hk2⟩;rw [HE9.out] at hs2 ⊢;rw [if_neg HM0.out] at hs2;have H2:Hid (aV w2 ⟨vb,bb,sb,lb,db,mb,tb,xq⟩ ev fv el (cO D V.s ⟨(n:Int),xt,xms,xd⟩).1 { V with s:=V.s }):=hid ((H1.out.below DR.out).aCC hd2 hs2 hk2 HOK9.out);have VS:Hid (cN ⟨vb,bb,sb,lb,db,mb,tb,xq⟩ w ev fv w2 ev fv):=hid ((cN.below (B1.out.trans (DR.out.mono B1.out.size))).trans (cN.aCC hk2));have X2:=hid ((X1.out.below DR.out).kept hk2 HXN.out);clear hd2 hs2 hk2;dsimp only;go_wp2_with fail
 refine aF nofun ?_
 refine aB [7] (by kernel_rfl) (L:=bm 8 255) (by kernel_rfl) (f':=0) rfl (fun _ _ _ _ h=>h) (fun w o h=>ST.alloc h o) (.inl (by kernel_rfl)) ?_
 simp only [sF,sL]
 iterate 1 (refine aD _ (by rfl) (fun w'=>by go_simp;try with_reducible rfl) ?_;simp only [Act.put,sA])
 refine aE ?_
 refine aT (by kernel_rfl) ?_
 go_wp2_with fail
 refine (gZ H2.out _).mono ?_
 rintro e w7 ⟨rfl,hv7,hk7⟩
 have FIN:=hid (aV.aDS HB.out VS.out hv7 hk7)
 clear hv7 hk7
 dsimp only
 go_wp2_with fail
 go_ret
 rw [HR.out]
 exact FIN.out
theorem aFu {lb db mb tb:Nat} {ev fv:Value} {el:bE} {D:aA} {L:aM} {w:World} (h:bD w lb db mb tb ev fv el D L) (hl:L.last <= H59) (hn:L.es.length <= 2147483648) (index:Nat) {yt yk:Int} {okk:Bool} (h1:((atW L index).getD ⟨0,0,[]⟩).t = yt) (h2:((atW L index).getD ⟨0,0,[]⟩).k = yk) (h3:(atW L index).isSome = okk) :
  Calls Tryz.prog 13 #[.pointer (some ⟨lb,0,none⟩),.int .u64 index] w fun e w'=>∃ a n c,e = .returned (.tuple #[.agg #[.int .u64 yt,.int .i64 yk,.slice a n c],.bool okk]) /\ Below w.heap.size w w':=by
 subst h1 h2 h3
 exact (aFt h hl hn index).mono fun e w' ⟨a,n,c,he,_,_,hb⟩=>⟨a,n,c,he,hb⟩
theorem aJH (o:Option bR) (xt:Int):o.any (fun y=>y.t == xt) = (o.isSome && (o.getD ⟨0,0,[]⟩).t == xt):=by cases o <;> rfl
set_option maxRecDepth 20000 in
theorem zZ {w:World} {b:VB} {ev fv:Value} {el:bE} {D:aA} {V:cB} (h:aV w b ev fv el D V) (hg:aW D) (hst:D.steps + 300 <= 1000000000) (hl:V.L.last <= H59) (hn:V.L.es.length <= 2147483648) (n:Nat) (xt:Int) (xms:List Int) (xd:List Nat) (am ad:Option Addr) (nm cm nd cd:Nat) (hn9:(n:Int) < 18446744073709551616)
  (hxk:∀ w',Kept w w' (gH b ev fv) -> cG w' (.agg #[.int .u64 n,.int .u64 xt,.slice am nm cm,.slice ad nd cd]) ⟨(n:Int),xt,xms,xd⟩) (hb:V.br = false)
  (he:(cO D V.s ⟨(n:Int),xt,xms,xd⟩).2 = 0) (hc:jQ (cO D V.s ⟨(n:Int),xt,xms,xd⟩).1 V.L) (h1:1 <= (n:Int))  :
  Calls Tryz.prog 81 #[.pointer (some ⟨b.vb,0,none⟩),.agg #[.int .u64 n,.int .u64 xt,.slice am nm cm,.slice ad nd cd]] w (hE b ev fv (gV D V ⟨(n:Int),xt,xms,xd⟩) w):=by
 have HXN:Hid (¬ (bB b.db b.mb b.tb w.heap.size \/ w.heap.size = b.sb)):=hid fun e=>e.elim (fun e=>by have:=h.jV (k:=w.heap.size) (.inr (.inr (.inr (.inr (.inl e)))));omega) (fun e=>by have:=h.store.lt;omega)
 have HH:=hid h
 have HB:=hid hb
 have HG:=hid hg
 have HS4:Hid (D.steps + 4 <= 1000000000):=hid (by omega)
 have HXK:=hid hxk
 have HLL:=hid hl
 have HLN:=hid hn
 have HN9:=hid hn9
 have hb2:¬ V.br = true:=by rw [hb];decide
 have hsg:=oK V.s (⟨(n:Int),xt,xms,xd⟩:aZ) hg (by omega)
 obtain ⟨P,hinv⟩:=hc.inv
 have HC:=hid hc
 have HFS:Hid (V.L.fs.length <= 1000000):=hid (by have:=hinv.few hsg.1;omega)
 have HSR:Hid ((cO D V.s ⟨(n:Int),xt,xms,xd⟩).1.steps + V.L.fs.length <= 1000000000):=hid (by have:=hinv.few hsg.1;omega)
 have HSD:Hid ((cO D V.s ⟨(n:Int),xt,xms,xd⟩).1.steps + 200 <= 1000000000):=hid (by omega)
 have HOKL:=hid (hinv.lok hsg.1).1
 have HOK9:Hid ((⟨(n:Int),xt,xms,xd⟩:aZ) = iO \/ 1 <= (⟨(n:Int),xt,xms,xd⟩:aZ).i):=hid (.inr h1)
 have HE9:=hid he
 obtain ⟨yt,hyt⟩:∃ yt,((atW V.L n).getD ⟨0,0,[]⟩).t = yt:=⟨_,rfl⟩
 obtain ⟨yk,hyk⟩:∃ yk,((atW V.L n).getD ⟨0,0,[]⟩).k = yk:=⟨_,rfl⟩
 obtain ⟨okk,hyo⟩:∃ okk,(atW V.L n).isSome = okk:=⟨_,rfl⟩
 have HYT:=hid hyt
 have HYK:=hid hyk
 have HYS:=hid hyo
 have HRD:Hid ((okk && yt == xt) = true -> gV D V ⟨(n:Int),xt,xms,xd⟩ = ((eI (cO D V.s ⟨(n:Int),xt,xms,xd⟩).1 V.L n).1,{ V with s:=⟨(n:Int),xt,xms,xd⟩,L:=(eI (cO D V.s ⟨(n:Int),xt,xms,xd⟩).1 V.L n).2.1,br:=decide ((eI (cO D V.s ⟨(n:Int),xt,xms,xd⟩).1 V.L n).2.2 = 50) },(eI (cO D V.s ⟨(n:Int),xt,xms,xd⟩).1 V.L n).2.2)):=hid fun q=>by unfold gV;rw [if_neg hb2,if_neg (by rw [he];decide),if_pos (by dsimp only;rw [Int.toNat_natCast,aJH,hyt,hyo];exact q)];rfl
 have HRR:Hid ((okk && yt == xt) = false -> gV D V ⟨(n:Int),xt,xms,xd⟩ = ((bI (cO D V.s ⟨(n:Int),xt,xms,xd⟩).1 V.L n).1,{ V with s:=⟨(n:Int),xt,xms,xd⟩,L:=(bI (cO D V.s ⟨(n:Int),xt,xms,xd⟩).1 V.L n).2.1,br:=decide ((bI (cO D V.s ⟨(n:Int),xt,xms,xd⟩).1 V.L n).2.2 = 50) },(bI (cO D V.s ⟨(n:Int),xt,xms,xd⟩).1 V.L n).2.2)):=hid fun q=>by unfold gV;rw [if_neg hb2,if_neg (by rw [he];decide),if_neg (by dsimp only;rw [Int.toNat_natCast,aJH,hyt,hyo];rw [q];decide)];rfl
 clear h hg hst hl hn hxk hb hb2 hn9 he hc h1 hsg hinv hyt hyk hyo
 obtain ⟨vb,bb,sb,lb,db,mb,tb,xq⟩:=b
 dsimp only at HXN HXK ⊢
 go_enter Tryz.func81,Tryz.ntmps81
 go_wp2_with fail
 generalize hW1:World.alloc w _ = W1
 have B1:Hid (Below w.heap.size w W1):=hid (by subst hW1;exact (Below.refl _ _).alloc (Nat.le_refl _) _)
 have X1:Hid (bX W1 w.heap.size n xt (.slice am nm cm) (.slice ad nd cd)):=hid (by subst hW1;exact bX.box w _ _ _ _)
 have H1:=hid (HH.out.below B1.out)
 clear hW1
 refine (iU H1.out HB.out).mono ?_
 rintro e w1 ⟨rfl,rfl⟩
 dsimp only
 have ST:=aP.from W1
 have DR:Hid (Below W1.heap.size W1 W1.drew):=hid (Below.refl W1.heap.size W1).drew
 have BW:Hid (Below w.heap.size w W1.drew):=hid (B1.out.trans (DR.out.mono B1.out.size))
 have HD:Hid (aG W1.drew db mb tb D):=hid (H1.out.below DR.out).log.dN
 have HQ9:Hid (∀ k,W1.drew.heap.size <= k -> uD xq vb bb lb db mb tb ev fv k):=hid fun k hk=>(H1.out.below DR.out).off hk
 have HST9:Hid (cM (uD xq vb bb lb db mb tb ev fv) W1.drew sb db mb tb V.s):=hid (H1.out.below DR.out).store
 have HX9:Hid (cG W1.drew (.agg #[.int .u64 n,.int .u64 xt,.slice am nm cm,.slice ad nd cd]) ⟨(n:Int),xt,xms,xd⟩):=hid ((HXK.out w (Kept.refl _ _)).below BW.out)
 have HXK9:Hid (∀ w',Kept W1.drew w' (bB db mb tb) -> cG w' (.agg #[.int .u64 n,.int .u64 xt,.slice am nm cm,.slice ad nd cd]) ⟨(n:Int),xt,xms,xd⟩):=hid fun w' hk=>HXK.out w' ((Kept.aJ BW.out (S:=gH ⟨vb,bb,sb,lb,db,mb,tb,xq⟩ ev fv) fun k h1 h2=>by omega).trans (hk.mono fun _ _ e=>.inr (.inr (.inr (.inr (.inl e))))))
 go_wp2_with fail
 refine aN [0,1,3,7,15,0,63,127] 0 (fun w'=>Below W1.heap.size W1 w') (by kernel_rfl) ?_
 refine aB [0,1,2,3,4,5] (by kernel_rfl) (L:=bm 8 63) (by kernel_rfl) (f':=2) rfl (fun _ _ _ _ h=>h) (fun w o h=>ST.alloc h o) (.inr (by first | exact Below.refl _ _ | exact (Below.refl _ _).drew)) ?_
 simp only [sF,sL]
 iterate 6 (first | (refine aQ _ (by rfl) (fun w' hs=>by have c1:=(H1.out.below hs).c1;obtain ⟨x0,x1,x2,x3,_,_,_,_⟩:=X1.out.below hs;go_simp;try with_reducible rfl) rfl ?_;simp only [Act.put,sA]) | (refine aD _ (by rfl) (fun w'=>by go_simp;try with_reducible rfl) ?_;simp only [Act.put,sA]))
 refine aE ?_
 refine aI 6 (by kernel_rfl) (L:=bm 8 127) (by kernel_rfl) ?_
 simp only [sL]
 go_wp2_with fail;refine (zL (uD xq vb bb lb db mb tb ev fv) sb db mb tb V.s ⟨(n:Int),xt,xms,xd⟩ D _ W1.drew HQ9.out HST9.out HX9.out HXK9.out HD.out HG.out HS4.out).mono ?_;rintro e w2 ⟨rfl,hd2,hs2,hk2⟩;rw [HE9.out] at hs2 ⊢;rw [if_pos rfl] at hs2;have H2:Hid (aV w2 ⟨vb,bb,sb,lb,db,mb,tb,xq⟩ ev fv el (cO D V.s ⟨(n:Int),xt,xms,xd⟩).1 { V with s:=⟨(n:Int),xt,xms,xd⟩ }):=hid ((H1.out.below DR.out).aCC hd2 hs2 hk2 HOK9.out);have VS:Hid (cN ⟨vb,bb,sb,lb,db,mb,tb,xq⟩ w ev fv w2 ev fv):=hid ((cN.below (B1.out.trans (DR.out.mono B1.out.size))).trans (cN.aCC hk2));have X2:=hid ((X1.out.below DR.out).kept hk2 HXN.out);clear hd2 hs2 hk2;dsimp only;go_wp2_with fail
 refine aF nofun ?_
 refine aB [7] (by kernel_rfl) (L:=bm 8 255) (by kernel_rfl) (f':=0) rfl (fun _ _ _ _ h=>h) (fun w o h=>ST.alloc h o) (.inl (by kernel_rfl)) ?_
 simp only [sF,sL]
 iterate 1 (refine aD _ (by rfl) (fun w'=>by go_simp;try with_reducible rfl) ?_;simp only [Act.put,sA])
 refine aE ?_
 refine aT (by kernel_rfl) ?_
 have ST2:=aP.from w2
 have c2:=H2.out.c2
 dsimp only at c2
 go_wp2_with fail
 clear c2
 refine aN [0,1,3,7,15,0,32,127,255,511,511,0,3071,8191] 0 (fun w'=>Below w2.heap.size w2 w') (by kernel_rfl) ?_
 refine aB [0,1,2,3,4,5,6] (by kernel_rfl) (L:=bm 14 127) (by kernel_rfl) (f':=7) rfl (fun _ _ _ _ h=>h) (fun w o h=>ST2.alloc h o) (.inr (by first | exact Below.refl _ _ | exact (Below.refl _ _).drew)) ?_
 simp only [sF,sL]
 iterate 7 (first | (refine aQ _ (by rfl) (fun w' hs=>by have c2:=(H2.out.below hs).c2;obtain ⟨x0,x1,x2,x3,_,_,_,_⟩:=X2.out.below hs;go_simp;try with_reducible rfl) rfl ?_;simp only [Act.put,sA]) | (refine aD _ (by rfl) (fun w'=>by go_simp;try with_reducible rfl) ?_;simp only [Act.put,sA]))
 refine aE ?_
 refine aA0 7 11 (by kernel_rfl) (Lj:=bm 14 255) (Lk:=bm 14 2175) (by kernel_rfl) (by kernel_rfl) ?_ ?_
 ·simp only [sL]
  go_wp2_with fail
  refine (aFu (H2.out.below ((Below.refl w2.heap.size w2).drew)).log HLL.out HLN.out n HYT.out HYK.out HYS.out).mono ?_
  rintro e w3 ⟨a,en,ec,rfl,hb3⟩
  have B3:Hid (Below w2.heap.size w2 w3):=hid (((Below.refl w2.heap.size w2).drew).trans (hb3.mono ((Below.refl w2.heap.size w2).drew).size))
  clear hb3
  go_wp2_with fail
  refine aF nofun ?_
  refine aB [8,9,10] (by kernel_rfl) (L:=bm 14 2047) (by kernel_rfl) (f':=3) rfl (fun _ _ _ _ h=>h) (fun w o h=>ST2.alloc h o) (.inl (by kernel_rfl)) ?_
  simp only [sF,sL]
  iterate 3 (refine aD _ (by rfl) (fun w'=>by go_simp;try with_reducible rfl) ?_;simp only [Act.put,sA])
  refine aE ?_
  refine aI 11 (by kernel_rfl) (L:=bm 14 4095) (by kernel_rfl) ?_
  simp only [sL]
  go_wp2_with fail
  have E4:Hid (EC (w3.alloc (.cells #[.int .u64 0,.int .i64 0,.slice none 0 0] 38)) w3.heap.size 0 0 (.slice none 0 0)):=hid (EC.box w3)
  have LB:Hid (w2.heap.size <= w3.heap.size):=hid B3.out.size
  have B4:Hid (Below w2.heap.size w2 (w3.alloc (.cells #[.int .u64 0,.int .i64 0,.slice none 0 0] 38))):=hid (B3.out.alloc B3.out.size _)
  generalize World.alloc w3 _ = W4 at *
  generalize hEB:w3.heap.size = eb at *
  refine aF nofun ?_
  refine aI 12 (by kernel_rfl) (L:=bm 14 8191) (by kernel_rfl) ?_
  simp only [sL]
  obtain ⟨q0,q1,q2,g0,g1,g2⟩:=E4.out
  go_wp2_with fail
  have E5:Hid (EC _ _ yt yk (.slice a en ec)):=hid ((E4.out.set yt yk).put (.slice a en ec))
  have B5:Hid (Below w2.heap.size w2 _):=hid (B4.out.trans ((EC.oV W4 eb (.int .u64 yt) (.int .i64 yk) (.slice a en ec)).below B4.out.size fun k e=>by have:=LB.out;omega))
  generalize World.setCell _ _ _ = W5 at *
  clear q0 q1 q2 g0 g1 g2
  refine aF nofun ?_
  refine aB [13] (by kernel_rfl) (L:=bm 14 16383) (by kernel_rfl) (f':=0) rfl (fun _ _ _ _ h=>h) (fun w o h=>ST2.alloc h o) (.inl (by kernel_rfl)) ?_
  simp only [sF,sL]
  iterate 1 (refine aD _ (by rfl) (fun w'=>by go_simp;try with_reducible rfl) ?_;simp only [Act.put,sA])
  refine aE ?_
  refine aT (by kernel_rfl) ?_
  have H5:=hid (H2.out.below B5.out)
  have VS5:Hid (cN ⟨vb,bb,sb,lb,db,mb,tb,xq⟩ w ev fv W5 ev fv):=hid (VS.out.trans (cN.below B5.out))
  have c2:=H5.out.c2
  obtain ⟨x0,x1,x2,x3,_,_,_,_⟩:=X2.out.below B5.out
  obtain ⟨q0,_,_,_,_,_⟩:=E5.out
  dsimp only at c2
  clear E4 LB B4 ST ST2
  cases okk with
  | false =>
   have HR:=hid (HRR.out rfl)
   go_wp2_with fail
   refine (qG H5.out.log HC.out.fB HOKL.out HSR.out HFS.out n).mono ?_
   rintro e w6 ⟨rfl,ev6,fv6,el6,hl6,hs6⟩
   have H6:=hid (H5.out.kT hl6 hs6)
   have VS6:=hid (VS5.out.trans (cN.kU (b:=⟨vb,bb,sb,lb,db,mb,tb,xq⟩) hs6))
   clear hl6 hs6 c2 x0 x1 x2 x3 q0
   dsimp only
   go_wp2_with fail
   refine (gZ H6.out _).mono ?_
   rintro e w7 ⟨rfl,hv7,hk7⟩
   have FIN:=hid (aV.aDS HB.out VS6.out hv7 hk7)
   clear hv7 hk7
   dsimp only
   go_wp2_with fail
   go_ret
   rw [HR.out]
   exact FIN.out
  | true =>
   cases hx:(yt == xt) with
   | false =>
    have HR:=hid (HRR.out hx)
    go_wp2_with fail
    refine (qG H5.out.log HC.out.fB HOKL.out HSR.out HFS.out n).mono ?_
    rintro e w6 ⟨rfl,ev6,fv6,el6,hl6,hs6⟩
    have H6:=hid (H5.out.kT hl6 hs6)
    have VS6:=hid (VS5.out.trans (cN.kU (b:=⟨vb,bb,sb,lb,db,mb,tb,xq⟩) hs6))
    clear hl6 hs6 c2 x0 x1 x2 x3 q0
    dsimp only
    go_wp2_with fail
    refine (gZ H6.out _).mono ?_
    rintro e w7 ⟨rfl,hv7,hk7⟩
    have FIN:=hid (aV.aDS HB.out VS6.out hv7 hk7)
    clear hv7 hk7
    dsimp only
    go_wp2_with fail
    go_ret
    rw [HR.out]
    exact FIN.out
   | true =>
    have HR:=hid (HRD.out hx)
    go_wp2_with fail
    refine (aJN H5.out.log HC.out HSD.out n HN9.out).mono ?_
    rintro e w6 ⟨rfl,ev6,fv6,el6,hl6,hs6⟩
    have H6:=hid (H5.out.kT hl6 hs6)
    have VS6:=hid (VS5.out.trans (cN.kU (b:=⟨vb,bb,sb,lb,db,mb,tb,xq⟩) hs6))
    clear hl6 hs6 c2 x0 x1 x2 x3 q0
    dsimp only
    go_wp2_with fail
    refine (gZ H6.out _).mono ?_
    rintro e w7 ⟨rfl,hv7,hk7⟩
    have FIN:=hid (aV.aDS HB.out VS6.out hv7 hk7)
    clear hv7 hk7
    dsimp only
    go_wp2_with fail
    go_ret
    rw [HR.out]
    exact FIN.out
 ·simp only [sL]
  go_wp2_with fail
  have E3:Hid (EC (w2.alloc (.cells #[.int .u64 0,.int .i64 0,.slice none 0 0] 38)).drew w2.heap.size 0 0 (.slice none 0 0)):=hid ((EC.box w2).below (Below.refl _ _).drew)
  have B4:Hid (Below w2.heap.size w2 (w2.alloc (.cells #[.int .u64 0,.int .i64 0,.slice none 0 0] 38)).drew):=hid ((Below.refl w2.heap.size w2).alloc (Nat.le_refl _) _).drew
  generalize World.alloc w2 _ = W3 at *
  refine aF nofun ?_
  refine aI 7 (by kernel_rfl) (L:=bm 14 2303) (by kernel_rfl) ?_
  simp only [sL]
  go_wp2_with fail
  refine (aFu (H2.out.below B4.out).log HLL.out HLN.out n HYT.out HYK.out HYS.out).mono ?_
  rintro e w3 ⟨a,en,ec,rfl,hb3⟩
  have B3:Hid (Below w2.heap.size w2 w3):=hid (B4.out.trans (hb3.mono B4.out.size))
  have E4:=hid (E3.out.below hb3)
  have LB:=hid (Nat.le_refl w2.heap.size)
  clear hb3
  go_wp2_with fail
  refine aF nofun ?_
  refine aB [8,9,10] (by kernel_rfl) (L:=bm 14 4095) (by kernel_rfl) (f':=2) rfl (fun _ _ _ _ h=>h) (fun w o h=>ST2.alloc h o) (.inl (by kernel_rfl)) ?_
  simp only [sF,sL]
  iterate 3 (refine aD _ (by rfl) (fun w'=>by go_simp;try with_reducible rfl) ?_;simp only [Act.put,sA])
  refine aE ?_
  refine aI 12 (by kernel_rfl) (L:=bm 14 8191) (by kernel_rfl) ?_
  simp only [sL]
  obtain ⟨q0,q1,q2,g0,g1,g2⟩:=E4.out
  go_wp2_with fail
  have E5:Hid (EC _ _ yt yk (.slice a en ec)):=hid ((E4.out.set yt yk).put (.slice a en ec))
  have B5:Hid (Below w2.heap.size w2 _):=hid (B3.out.trans ((EC.oV w3 w2.heap.size (.int .u64 yt) (.int .i64 yk) (.slice a en ec)).below B3.out.size fun k e=>by omega))
  generalize World.setCell _ _ _ = W5 at *
  clear q0 q1 q2 g0 g1 g2
  refine aF nofun ?_
  refine aB [13] (by kernel_rfl) (L:=bm 14 16383) (by kernel_rfl) (f':=0) rfl (fun _ _ _ _ h=>h) (fun w o h=>ST2.alloc h o) (.inl (by kernel_rfl)) ?_
  simp only [sF,sL]
  iterate 1 (refine aD _ (by rfl) (fun w'=>by go_simp;try with_reducible rfl) ?_;simp only [Act.put,sA])
  refine aE ?_
  refine aT (by kernel_rfl) ?_
  have H5:=hid (H2.out.below B5.out)
  have VS5:Hid (cN ⟨vb,bb,sb,lb,db,mb,tb,xq⟩ w ev fv W5 ev fv):=hid (VS.out.trans (cN.below B5.out))
  have c2:=H5.out.c2
  obtain ⟨x0,x1,x2,x3,_,_,_,_⟩:=X2.out.below B5.out
  obtain ⟨q0,_,_,_,_,_⟩:=E5.out
  dsimp only at c2
  clear E4 LB B4 ST ST2
  cases okk with
  | false =>
   have HR:=hid (HRR.out rfl)
   go_wp2_with fail
   refine (qG H5.out.log HC.out.fB HOKL.out HSR.out HFS.out n).mono ?_
   rintro e w6 ⟨rfl,ev6,fv6,el6,hl6,hs6⟩
   have H6:=hid (H5.out.kT hl6 hs6)
   have VS6:=hid (VS5.out.trans (cN.kU (b:=⟨vb,bb,sb,lb,db,mb,tb,xq⟩) hs6))
   clear hl6 hs6 c2 x0 x1 x2 x3 q0
   dsimp only
   go_wp2_with fail
   refine (gZ H6.out _).mono ?_
   rintro e w7 ⟨rfl,hv7,hk7⟩
   have FIN:=hid (aV.aDS HB.out VS6.out hv7 hk7)
   clear hv7 hk7
   dsimp only
   go_wp2_with fail
   go_ret
   rw [HR.out]
   exact FIN.out
  | true =>
   cases hx:(yt == xt) with
   | false =>
    have HR:=hid (HRR.out hx)
    go_wp2_with fail
    refine (qG H5.out.log HC.out.fB HOKL.out HSR.out HFS.out n).mono ?_
    rintro e w6 ⟨rfl,ev6,fv6,el6,hl6,hs6⟩
    have H6:=hid (H5.out.kT hl6 hs6)
    have VS6:=hid (VS5.out.trans (cN.kU (b:=⟨vb,bb,sb,lb,db,mb,tb,xq⟩) hs6))
    clear hl6 hs6 c2 x0 x1 x2 x3 q0
    dsimp only
    go_wp2_with fail
    refine (gZ H6.out _).mono ?_
    rintro e w7 ⟨rfl,hv7,hk7⟩
    have FIN:=hid (aV.aDS HB.out VS6.out hv7 hk7)
    clear hv7 hk7
    dsimp only
    go_wp2_with fail
    go_ret
    rw [HR.out]
    exact FIN.out
   | true =>
    have HR:=hid (HRD.out hx)
    go_wp2_with fail
    refine (aJN H5.out.log HC.out HSD.out n HN9.out).mono ?_
    rintro e w6 ⟨rfl,ev6,fv6,el6,hl6,hs6⟩
    have H6:=hid (H5.out.kT hl6 hs6)
    have VS6:=hid (VS5.out.trans (cN.kU (b:=⟨vb,bb,sb,lb,db,mb,tb,xq⟩) hs6))
    clear hl6 hs6 c2 x0 x1 x2 x3 q0
    dsimp only
    go_wp2_with fail
    refine (gZ H6.out _).mono ?_
    rintro e w7 ⟨rfl,hv7,hk7⟩
    have FIN:=hid (aV.aDS HB.out VS6.out hv7 hk7)
    clear hv7 hk7
    dsimp only
    go_wp2_with fail
    go_ret
    rw [HR.out]
    exact FIN.out

def zV (V:cB) (n:Nat):Int × Bool:=if V.s.i = n then (V.s.t,true) else (((atW V.L n).getD ⟨0,0,[]⟩).t,(atW V.L n).isSome)
set_option maxRecDepth 20000 in
theorem aIH {w:World} {b:VB} {ev fv:Value} {el:bE} {D:aA} {V:cB} (h:aV w b ev fv el D V) (hl:V.L.last <= H59) (hn:V.L.es.length <= 2147483648) (n:Nat) :
  Calls Tryz.prog 48 #[.pointer (some ⟨b.vb,0,none⟩),.int .u64 n] w fun e w'=>e = .returned (.tuple #[.int .u64 (zV V n).1,.bool (zV V n).2]) /\ Below w.heap.size w w':=by
 have HH:=hid h
 have HLL:=hid hl
 have HN:=hid hn
 obtain ⟨m,hm⟩:∃ m:Int,(if V.br then (50:Int) else 0) = m:=⟨_,rfl⟩
 have h1:(m == 1) = false:=by subst hm;cases V.br <;> rfl
 have HM:=hid hm
 by_cases hc:V.s.i = n
 ·have HT:Hid (zV V n = (V.s.t,true)):=hid (by unfold zV;rw [if_pos hc])
  have hx:(V.s.i == (n:Int)) = true:=beq_iff_eq.2 hc
  clear h hl hn hc hm
  obtain ⟨vb,bb,sb,lb,db,mb,tb,xq⟩:=b
  simp only
  go_enter Tryz.func48,Tryz.ntmps48
  go_wp2_with fail
  refine (aBR HH.out).mono ?_
  rintro e w1 ⟨rfl,rfl⟩
  rw [HM.out]
  dsimp only
  go_wp2_with fail
  refine (aBQ HH.out).mono ?_
  rintro e w1 ⟨i,t,mv,dv,rfl,hs,hb1⟩
  obtain ⟨rfl,rfl,⟨am,nm,cm,rfl⟩,⟨ad,nd,cd,rfl⟩⟩:=hs.sH
  have B1:=hid hb1
  clear hb1 hs
  dsimp only
  go_wp2_with fail
  refine bodyPost_ret (v:=.tuple #[.int .u64 V.s.t,.bool true]) (by simp [results,Tryz.results48,go_sem]) rfl ?_
  rw [HT.out]
  exact ⟨rfl,B1.out.alloc B1.out.size _⟩
 ·have HT:Hid (zV V n = (((atW V.L n).getD ⟨0,0,[]⟩).t,(atW V.L n).isSome)):=hid (by unfold zV;rw [if_neg hc])
  have hx:(V.s.i == (n:Int)) = false:=beq_eq_false_iff_ne.2 hc
  clear h hl hn hc hm
  obtain ⟨vb,bb,sb,lb,db,mb,tb,xq⟩:=b
  simp only
  go_enter Tryz.func48,Tryz.ntmps48
  go_wp2_with fail
  refine (aBR HH.out).mono ?_
  rintro e w1 ⟨rfl,rfl⟩
  rw [HM.out]
  dsimp only
  go_wp2_with fail
  refine (aBQ HH.out).mono ?_
  rintro e w1 ⟨i,t,mv,dv,rfl,hs,hb1⟩
  obtain ⟨rfl,rfl,⟨am,nm,cm,rfl⟩,⟨ad,nd,cd,rfl⟩⟩:=hs.sH
  have B1:=hid hb1
  clear hb1 hs
  dsimp only
  go_wp2_with fail
  generalize hW2:World.alloc w1 _ = W2
  have B2:Hid (Below w.heap.size w W2):=hid (by subst hW2;exact B1.out.alloc B1.out.size _)
  clear hW2
  refine (aKk (HH.out.below B2.out) HLL.out HN.out n).mono ?_
  rintro e w3 ⟨a,en,ec,rfl,_,_,hb3⟩
  have B3:Hid (Below w.heap.size w w3):=hid (B2.out.trans (hb3.mono B2.out.size))
  clear hb3
  dsimp only
  go_wp2_with fail
  refine bodyPost_ret (v:=.tuple #[.int .u64 ((atW V.L n).getD ⟨0,0,[]⟩).t,.bool (atW V.L n).isSome]) (by simp [results,Tryz.results48,go_sem]) rfl ?_
  rw [HT.out]
  exact ⟨rfl,B3.out.alloc B3.out.size _⟩
end Go.Proofs.YtjdglpcnkiioeaaGreat
