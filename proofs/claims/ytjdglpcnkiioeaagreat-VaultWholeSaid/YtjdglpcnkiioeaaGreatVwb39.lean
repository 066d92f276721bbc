/- Several texts in one: Wyc, Wyd, Vta, Vtb, Vtc, Vtd, Vte, Vtf, Vtg for vwhole_law_holds. No conditions but those stated. -/
import Derived.Test.YtjdglpcnkiioeaaGreatVwb17
import Derived.Test.YtjdglpcnkiioeaaGreatVwb38
import Derived.Test.YtjdglpcnkiioeaaGreatVwb32
import Derived.Test.YtjdglpcnkiioeaaGreatVwb31
import Derived.Test.YtjdglpcnkiioeaaGreatVwb26
import Derived.Test.YtjdglpcnkiioeaaGreatVwb34
set_option maxHeartbeats 16000000
namespace Go.Proofs.YtjdglpcnkiioeaaGreat
open Go.ChangeShapes Go.WideShapes Go.ChangeAt Go.RowKit Go.Deep Go.Proofs.Own

structure wG where
  t:Int
  k:Int
  da:Option Addr
  dn:Nat
  dc:Nat
def aIp (r:wG):List Value:=[.int .u64 r.t,.int .i64 r.k,.slice r.da r.dn r.dc]
def rC (w:World) (r:wG):Prop:=(0 <= r.t /\ r.t < 18446744073709551616 /\ -9223372036854775808 <= r.k /\ r.k <= 9223372036854775807) /\ (r.dn <= 2097152 -> ∃ l,l.length = r.dn /\ Bytes w (.slice r.da r.dn r.dc) l)
def kO (w:World) (v:Value) (l:List wG):Prop:=dN w 3 v (l.map aIp) /\ (∀ r ∈ l,rC w r) /\ l.length <= maxLen
theorem xF:Tryz.prog.cellsOf 38 = 3:=by kernel_rfl
theorem aAU:Tryz.prog.cellsOf 23 = 1:=by kernel_rfl
theorem aBS:Tryz.prog.cellsOf 24 = 1:=by kernel_rfl
theorem vC:Tryz.prog.cellsOf 36 = 1:=by kernel_rfl
section
variable {H:Type} {enc:TypeId × Value -> H} {W:World}
set_option maxRecDepth 100000 in
theorem aFR {n:Nat} {cs:List Value} {y:DataW H × List MemPlace} (h:DataW.trod enc Tryz.prog W 0 (fun _=>true) true n 38 cs = some y):∃ r:wG,cs = aIp r /\ rC W r:=by
  obtain ⟨xs,k,_,_,hl,hxl,hg⟩:=DataW.trod_struct Tryz.underlying38 h
  rw [xF] at hl
  match cs,hl with
  | [c0,c1,c2],_ =>
    match xs,hxl with
    | [y0,y1,y2],_ =>
      have g0:=hg 0 _ rfl
      have g1:=hg 1 _ rfl
      have g2:=hg 2 _ rfl
      simp only [List.getElem_toArray,List.getElem_cons_zero,List.getElem_cons_succ] at g0 g1 g2
      rw [rZ] at g0
      rw [rX] at g1
      rw [vC] at g2
      simp only [List.drop_zero,List.drop_succ_cons,List.take_succ_cons,List.take_zero,List.getElem?_cons_zero,List.getElem?_cons_succ] at g0 g1 g2
      obtain ⟨z0,e0,_,w0⟩:=DataW.trod_int Tryz.underlying22 g0
      obtain rfl:c0 = .int .u64 z0:=by simpa using e0
      obtain ⟨z1,e1,_,w1⟩:=DataW.trod_int Tryz.underlying3 g1
      obtain rfl:c1 = .int .i64 z1:=by simpa using e1
      obtain ⟨ad,nd,cd,rfl,hd⟩:=vQ g2
      exact ⟨⟨z0,z1,ad,nd,cd⟩,rfl,⟨(lD w0).1,(lD w0).2,(tZ w1).1,(tZ w1).2⟩,hd⟩
set_option maxRecDepth 100000 in
theorem aDH {fuel:Nat} {v:Value} {x:DataW H × List MemPlace} (hf:DataW.trod enc Tryz.prog W 0 (fun _=>true) true fuel 23 [v] = some x):∃ l,kO W v l:=by
  obtain ⟨rs,h1,h2⟩:=uK (val:=aIp) (Ok:=rC W) Tryz.underlying23 xF (by decide) (fun n cs y h=>aFR h) hf
  exact ⟨rs,h1,h2⟩
end
theorem rC.below {w w':World} {r:wG} (h:rC w r) (hb:Below w.heap.size w w'):rC w' r:=⟨h.1,fun e=>let ⟨l,h1,h2⟩:=h.2 e;⟨l,h1,h2.below hb⟩⟩
theorem kO.below {w w':World} {v:Value} {l:List wG} (h:kO w v l) (hb:Below w.heap.size w w'):kO w' v l:=⟨h.1.below hb,fun r hr=>(h.2.1 r hr).below hb,h.2.2⟩
theorem kO.at {w:World} {a:Option Addr} {n c:Nat} {l:List wG} (h:kO w (.slice a n c) l) {j:Nat} {r:wG} (hj:l[j]? = some r):∃ b o,a = some ⟨b,o,none⟩ /\ b < w.heap.size /\ w.cell? ⟨b,o + j * 3,none⟩ = some (.int .u64 r.t) /\ w.cell? ⟨b,o + j * 3 + 1,none⟩ = some (.int .i64 r.k) /\ w.cell? ⟨b,o + j * 3 + 2,none⟩ = some (.slice r.da r.dn r.dc):=by
  obtain ⟨hl,he⟩:=List.getElem?_eq_some_iff.1 hj
  obtain ⟨b,o,h1,h2,h3⟩:=h.1.at (j:=j) (by rw [List.length_map];exact hl)
  rw [List.getElem_map,he] at h3
  exact ⟨b,o,h1,h2,by have:=h3 0 _ rfl;rwa [Nat.add_zero] at this,h3 1 _ rfl,h3 2 _ rfl⟩
theorem kO.aKh {w:World} {v:Value} {l:List wG} (h:kO w v l) (hd:∀ r ∈ l,r.dn <= 5000):∃ el:bF,oX w v el /\ el.length = l.length /\ ∀ p ∈ el,p.1.t < 18446744073709551616 /\ p.1.k < 18446744073709551616 /\ p.1.d.length <= 5000:=by
  have H:∀ l:List wG,(∀ r ∈ l,rC w r /\ r.dn <= 5000) -> ∃ el:bF,aU el = l.map aIp /\ cG w (fun _=>False) el /\ ∀ p ∈ el,p.1.t < 18446744073709551616 /\ p.1.k < 18446744073709551616 /\ p.1.d.length <= 5000:=by
    intro l
    induction l with
    | nil=>exact fun _=>⟨[],rfl,nofun,nofun⟩
    | cons r l ih =>
      intro hr
      obtain ⟨el,h1,h2,h3⟩:=ih fun q hq=>hr q (List.mem_cons_of_mem _ hq)
      obtain ⟨⟨⟨a1,a2,a3,a4⟩,a5⟩,a6⟩:=hr r (List.mem_cons_self ..)
      obtain ⟨d,e,hB⟩:=a5 (by omega)
      refine ⟨(⟨r.t,r.k,d⟩,.slice r.da r.dn r.dc) :: el,?_,?_,?_⟩
      . unfold aU at h1 ⊢
        rw [List.map_cons,List.map_cons,h1]
        rfl
      . intro p hp
        rcases List.mem_cons.1 hp with rfl | hp
        . exact ⟨hB,⟨a1,a2,a3,a4⟩,fun _ _ h=>h⟩
        . exact h2 p hp
      . intro p hp
        rcases List.mem_cons.1 hp with rfl | hp
        . exact ⟨a2,by simp only;omega,by simp only;omega⟩
        . exact h3 p hp
  obtain ⟨el,h1,h2,h3⟩:=H l fun r hr=>⟨h.2.1 r hr,hd r hr⟩
  refine ⟨el,⟨by rw [h1];exact h.1,h2⟩,?_,h3⟩
  have:=congrArg List.length h1
  rw [aY,List.length_map] at this
  exact this
end Go.Proofs.YtjdglpcnkiioeaaGreat
namespace Go.Proofs.YtjdglpcnkiioeaaGreat
open Go.RowKit Go.Maps Go.Proofs.Own Go.Shelf

theorem aDp {α:Type} {l:List α} {j:Nat} (hj:j < l.length):∃ x,l[j]? = some x /\ x ∈ l:=⟨l[j],List.getElem?_eq_getElem hj,List.getElem_mem hj⟩

structure cC where
  t:Int
  v:Int
  s:bI
  L:aK
  br:Bool
def wZ (vb bb lb db mb tb:Nat) (ev fv:Value):Nat -> Prop:=fun k=>k ≠ vb /\ k ≠ bb /\ ¬ jH lb db mb tb ev fv k
structure VB where
  vb:Nat
  bb:Nat
  sb:Nat
  lb:Nat
  db:Nat
  mb:Nat
  tb:Nat
structure aX (w:World) (b:VB) (ev fv:Value) (el:bF) (D:aA) (V:cC):Prop where
  c0:w.cell? ⟨b.vb,0,none⟩ = some (.pointer (some ⟨b.bb,0,none⟩))
  c1:w.cell? ⟨b.vb,1,none⟩ = some (.pointer (some ⟨b.sb,0,none⟩))
  c2:w.cell? ⟨b.vb,2,none⟩ = some (.pointer (some ⟨b.lb,0,none⟩))
  c3:w.cell? ⟨b.vb,3,none⟩ = some (.bool V.br)
  f3:w.frozen? ⟨b.vb,3,none⟩ = false
  n8:oT w b.vb
  book:dL w b.bb b.db V.t V.v
  store:cZ (wZ b.vb b.bb b.lb b.db b.mb b.tb ev fv) w b.sb b.db b.mb b.tb V.s
  log:bC w b.lb b.db b.mb b.tb ev fv el D V.L
  nv:¬ jH b.lb b.db b.mb b.tb ev fv b.vb
  nb:b.bb ≠ b.vb /\ ¬ jH b.lb b.db b.mb b.tb ev fv b.bb
  ns:b.sb ≠ b.vb /\ b.sb ≠ b.bb /\ ¬ jH b.lb b.db b.mb b.tb ev fv b.sb
  sok:V.s = jF \/ 1 <= V.s.i
def iT (b:VB) (ev fv:Value):Nat -> Prop:=fun k=>k = b.vb \/ k = b.bb \/ k = b.sb \/ jH b.lb b.db b.mb b.tb ev fv k
theorem aX.lt {w:World} {b:VB} {ev fv:Value} {el:bF} {D:aA} {V:cC} (h:aX w b ev fv el D V):b.vb < w.heap.size:=World.block_lt_of_cell? _ _ h.c0
theorem aX.lN {w:World} {b:VB} {ev fv:Value} {el:bF} {D:aA} {V:cC} (h:aX w b ev fv el D V) {k:Nat} (hk:iT b ev fv k):k < w.heap.size:=by
  rcases hk with rfl | rfl | rfl | hk
  . exact h.lt
  . exact h.book.lt
  . exact h.store.lt
  . exact h.log.lN hk
theorem aX.below {w w':World} {b:VB} {ev fv:Value} {el:bF} {D:aA} {V:cC} (h:aX w b ev fv el D V) (hb:Below w.heap.size w w'):aX w' b ev fv el D V :=
  have hl:=h.lt
  ⟨Below.at hb h.c0 hl,Below.at hb h.c1 hl,Below.at hb h.c2 hl,Below.at hb h.c3 hl,(hb.frozen (p:=⟨b.vb,3,none⟩) hl).trans h.f3,h.n8.kept (Kept.aN hb (S:=fun _=>False) fun k h1 h2=>by omega) hl id,h.book.below hb,h.store.below hb,h.log.below hb,h.nv,h.nb,h.ns,h.sok⟩
theorem aX.iH {w w':World} {b:VB} {ev fv:Value} {el:bF} {D D':aA} {V:cC} (h:aX w b ev fv el D V) (hd:aG w' b.db b.mb b.tb D') (hk:Kept w w' (bA b.db b.mb b.tb)):aX w' b ev fv el D' V :=
  have hn:¬ bA b.db b.mb b.tb b.vb:=fun e=>h.nv (.inr (.inl e))
  ⟨hk.cell h.c0 hn,hk.cell h.c1 hn,hk.cell h.c2 hn,hk.cell h.c3 hn,(hk.frozen (a:=⟨b.vb,3,none⟩) h.lt hn).trans h.f3,h.n8.kept hk h.lt hn,h.book.kept hk (fun e=>h.nb.2 (.inr (.inl e))),h.store.kept hk,h.log.iH hd hk,h.nv,h.nb,h.ns,h.sok⟩
def cI (b:VB) (w:World) (ev fv:Value) (w':World) (ev' fv':Value):Prop :=
  Kept w w' (iT b ev fv) /\ (∀ k,ev'.ownBlock = some k -> ev.ownBlock = some k \/ w.heap.size <= k) /\ (∀ k,fv'.ownBlock = some k -> fv.ownBlock = some k \/ w.heap.size <= k)
theorem cI.kL {b:VB} {w w':World} {ev fv ev' fv':Value} (h:aQ b.lb b.db b.mb b.tb w ev fv w' ev' fv'):cI b w ev fv w' ev' fv':=⟨h.1.mono fun _ _ e=>.inr (.inr (.inr e)),h.2.1,h.2.2⟩
theorem cI.below {b:VB} {w w':World} {ev fv:Value} (h:Below w.heap.size w w'):cI b w ev fv w' ev fv:=⟨Kept.aN h fun k h1 h2=>by omega,fun _ h=>.inl h,fun _ h=>.inl h⟩
theorem cI.trans {b:VB} {w w1 w2:World} {ev fv ev1 fv1 ev2 fv2:Value} (h:cI b w ev fv w1 ev1 fv1) (k:cI b w1 ev1 fv1 w2 ev2 fv2):cI b w ev fv w2 ev2 fv2:=by
  refine ⟨h.1.andThen k.1 fun j hj hs=>?_,fun j hj=>?_,fun j hj=>?_⟩
  . rcases hs with hs | hs | hs | hs | hs | hs | hs | hs
    . exact hs
    . exact .inl hs
    . exact .inr (.inl hs)
    . exact .inr (.inr (.inl hs))
    . exact .inr (.inr (.inr (.inl hs)))
    . exact .inr (.inr (.inr (.inr (.inl hs))))
    . rcases h.2.1 j hs with e | e
      . exact .inr (.inr (.inr (.inr (.inr (.inl e)))))
      . exact absurd hj (Nat.not_lt.2 e)
    . rcases h.2.2 j hs with e | e
      . exact .inr (.inr (.inr (.inr (.inr (.inr e)))))
      . exact absurd hj (Nat.not_lt.2 e)
  . rcases k.2.1 j hj with e | e
    . exact h.2.1 j e
    . exact .inr (Nat.le_trans h.1.size e)
  . rcases k.2.2 j hj with e | e
    . exact h.2.2 j e
    . exact .inr (Nat.le_trans h.1.size e)
theorem aQ.aBj {lb db mb tb:Nat} {w w':World} {ev fv ev' fv':Value} (hs:aQ lb db mb tb w ev fv w' ev' fv') {k:Nat} (hk:k < w.heap.size) (hn:¬ jH lb db mb tb ev fv k):¬ jH lb db mb tb ev' fv' k:=by
  rintro (hq | hq | hq | hq)
  . exact hn (.inl hq)
  . exact hn (.inr (.inl hq))
  . rcases hs.2.1 k hq with e | e
    . exact hn (.inr (.inr (.inl e)))
    . omega
  . rcases hs.2.2 k hq with e | e
    . exact hn (.inr (.inr (.inr e)))
    . omega
theorem aX.kK {w w':World} {b:VB} {ev fv ev' fv':Value} {el el':bF} {D D':aA} {V:cC} {L':aK} (h:aX w b ev fv el D V) (hl:bC w' b.lb b.db b.mb b.tb ev' fv' el' D' L') (hs:aQ b.lb b.db b.mb b.tb w ev fv w' ev' fv') :
    aX w' b ev' fv' el' D' { V with L:=L' }:=by
  have hv:=h.lt
  refine ⟨hs.1.cell h.c0 h.nv,hs.1.cell h.c1 h.nv,hs.1.cell h.c2 h.nv,hs.1.cell h.c3 h.nv,(hs.1.frozen (a:=⟨b.vb,3,none⟩) hv h.nv).trans h.f3,h.n8.kept hs.1 hv h.nv,h.book.kept hs.1 h.nb.2,?_,hl,hs.aBj hv h.nv,⟨h.nb.1,hs.aBj h.book.lt h.nb.2⟩,⟨h.ns.1,h.ns.2.1,hs.aBj h.store.lt h.ns.2.2⟩,h.sok⟩
  exact ((h.store.wN (T:=fun k=>wZ b.vb b.bb b.lb b.db b.mb b.tb ev fv k /\ wZ b.vb b.bb b.lb b.db b.mb b.tb ev' fv' k) (fun k hk hlt=>⟨hk,hk.1,hk.2.1,hs.aBj hlt hk.2.2⟩)).qI hs.1 h.ns.2.2 (fun k hk=>.inr fun e=>e.1.2.2 hk)).wN (fun k hk _=>hk.2)
theorem bC.aside {w w':World} {lb db mb tb x:Nat} {ev fv:Value} {el:bF} {D D':aA} {L:aK} (h:bC w lb db mb tb ev fv el D L) (hd:aG w' db mb tb D') (hk:Kept w w' (fun k=>bA db mb tb k \/ k = x)) (hx:¬ jH lb db mb tb ev fv x) (h8:oT w x):bC w' lb db mb tb ev fv el D' L:=by
  have hl:=h.lt
  have n0:¬ (bA db mb tb lb \/ lb = x):=fun e=>e.elim h.nl (fun e=>hx (.inl e.symm))
  refine ⟨hd,hk.cell h.c0 n0,hk.cell h.c1 n0,hk.cell h.c2 n0,hk.cell h.c3 n0,hk.cell h.c4 n0,fun j h1 h2=>(hk.frozen (a:=⟨lb,j,none⟩) hl n0).trans (h.fz j h1 h2),(fun k hk2 j y hy=>by subst hk2;exact h.n8 k rfl j y (by rw [<- World.cell?_of_block (a:=⟨k,j,none⟩) (hk.block k hl n0)];exact hy)),h.es,
    h.er.kept hk fun b hb e=>e.elim (h.ne b hb).2.1 (fun e=>hx (.inr (.inr (.inl (e ▸ hb))))),h.fr.kept hk fun b hb e=>e.elim (h.nf b hb).2 (fun e=>hx (.inr (.inr (.inr (e ▸ hb))))),fun p hp=>?_,h.nl,h.ne,h.nf⟩
  obtain ⟨h1,h2,h3⟩:=h.dat p hp
  refine ⟨h1.nO hk fun hne b hb e=>?_,h2,h3⟩
  rcases e with e | e
  . exact h3 b hb e
  . obtain ⟨b',o,c,e2,_,_,hc⟩:=h1.fS (List.length_pos_iff.2 hne)
    rw [e2] at hb
    obtain rfl:b' = b:=Option.some.inj hb
    have:=hc 0 (List.length_pos_iff.2 hne)
    rw [e] at this
    exact h8 _ _ this
theorem cZ.aKo {R:Nat -> Prop} {w:World} {sb db mb tb:Nat} {s:bI} (h:cZ R w sb db mb tb s):oT w sb:=let ⟨_,_,h1,_⟩:=h;h1.n8
theorem aX.aHh {w w':World} {b:VB} {ev fv:Value} {el:bF} {D D':aA} {V:cC} {t' v':Int} (h:aX w b ev fv el D V) (hd:aG w' b.db b.mb b.tb D') (hbk:dL w' b.bb b.db t' v') (hk:Kept w w' (fun k=>bA b.db b.mb b.tb k \/ k = b.bb)) :
    aX w' b ev fv el D' { V with t:=t',v:=v' }:=by
  have hn:¬ (bA b.db b.mb b.tb b.vb \/ b.vb = b.bb):=fun e=>e.elim (fun e=>h.nv (.inr (.inl e))) (fun e=>h.nb.1 e.symm)
  have hs:¬ (bA b.db b.mb b.tb b.sb \/ b.sb = b.bb):=fun e=>e.elim (fun e=>h.ns.2.2 (.inr (.inl e))) h.ns.2.1
  exact ⟨hk.cell h.c0 hn,hk.cell h.c1 hn,hk.cell h.c2 hn,hk.cell h.c3 hn,(hk.frozen (a:=⟨b.vb,3,none⟩) h.lt hn).trans h.f3,h.n8.kept hk h.lt hn,hbk,h.store.qI hk hs (fun k hk=>hk.imp id (fun e q=>q.2.1 e)),h.log.aside hd hk h.nb.2 h.book.n8,h.nv,h.nb,h.ns,h.sok⟩
theorem aX.aCd {w w':World} {b:VB} {ev fv:Value} {el:bF} {D D':aA} {V:cC} {s':bI} (h:aX w b ev fv el D V) (hd:aG w' b.db b.mb b.tb D') (hst:cZ (wZ b.vb b.bb b.lb b.db b.mb b.tb ev fv) w' b.sb b.db b.mb b.tb s') (hk:Kept w w' (fun k=>bA b.db b.mb b.tb k \/ k = b.sb)) (hok:s' = jF \/ 1 <= s'.i) :
    aX w' b ev fv el D' { V with s:=s' }:=by
  have hn:¬ (bA b.db b.mb b.tb b.vb \/ b.vb = b.sb):=fun e=>e.elim (fun e=>h.nv (.inr (.inl e))) (fun e=>h.ns.1 e.symm)
  have hb:¬ (bA b.db b.mb b.tb b.bb \/ b.bb = b.sb):=fun e=>e.elim (fun e=>h.nb.2 (.inr (.inl e))) (fun e=>h.ns.2.1 e.symm)
  exact ⟨hk.cell h.c0 hn,hk.cell h.c1 hn,hk.cell h.c2 hn,hk.cell h.c3 hn,(hk.frozen (a:=⟨b.vb,3,none⟩) h.lt hn).trans h.f3,h.n8.kept hk h.lt hn,h.book.kept hk hb,hst,h.log.aside hd hk h.ns.2.2 h.store.aKo,h.nv,h.nb,h.ns,hok⟩
theorem aX.aI6 {w:World} {b:VB} {ev fv:Value} {el:bF} {D:aA} {V:cC} (h:aX w b ev fv el D V) (x:Bool):aX (w.setCell ⟨b.vb,3,none⟩ (.bool x)) b ev fv el D { V with br:=x }:=by
  have hk:Kept w (w.setCell ⟨b.vb,3,none⟩ (.bool x)) (fun k=>k = b.vb):=Kept.setCell w ⟨b.vb,3,none⟩ _
  have hb:¬ b.bb = b.vb:=h.nb.1
  have hk':Kept w (w.setCell ⟨b.vb,3,none⟩ (.bool x)) (fun k=>bA b.db b.mb b.tb k \/ k = b.vb):=hk.mono fun _ _ e=>.inr e
  have hd:aG (w.setCell ⟨b.vb,3,none⟩ (.bool x)) b.db b.mb b.tb D:=h.log.dO.eJ hk (fun k h1 h2=>h.nv (.inr (.inl (h2 ▸ h1)))) (fun k e j y hy=>by subst e;exact h.n8 j y hy)
  exact ⟨by rw [World.cell?_setCell_other _ _ _ _ (by simp)];exact h.c0,by rw [World.cell?_setCell_other _ _ _ _ (by simp)];exact h.c1,by rw [World.cell?_setCell_other _ _ _ _ (by simp)];exact h.c2,World.cell?_setCell_same _ _ _ h.c3,by rw [World.frozen?_setCell];exact h.f3,
    h.n8.set _ h.c3 (fun y e=>by cases e),h.book.kept hk hb,h.store.qI hk h.ns.1 (fun k e=>.inr fun q=>q.1 e),h.log.aside hd hk' h.nv h.n8,h.nv,h.nb,h.ns,h.sok⟩
end Go.Proofs.YtjdglpcnkiioeaaGreat
namespace Go.Proofs.YtjdglpcnkiioeaaGreat
open Go.Lib (hid)
open Go.RowKit Go.Maps Go.Proofs.Own Go.Shelf

theorem aJF (x y z:Nat):∀ w:World,(Instr.field 109 (.agg #[.pointer (some ⟨x,0,none⟩),.pointer (some ⟨y,0,none⟩),.pointer (some ⟨z,0,none⟩)]) 1).run Tryz.prog w = .ok (.pointer (some ⟨y,0,none⟩)) w:=fun _=>by kernel_rfl
theorem aBs (x y z:Nat):∀ w:World,(Instr.field 109 (.agg #[.pointer (some ⟨x,0,none⟩),.pointer (some ⟨y,0,none⟩),.pointer (some ⟨z,0,none⟩)]) 2).run Tryz.prog w = .ok (.pointer (some ⟨z,0,none⟩)) w:=fun _=>by kernel_rfl
set_option maxRecDepth 20000 in
theorem tK {w:World} {b:VB} {ev fv:Value} {el:bF} {D:aA} {V:cC} (h:aX w b ev fv el D V) :
    Calls Tryz.prog 106 #[.pointer (some ⟨b.vb,0,none⟩)] w fun e w'=>e = .returned (.agg #[.pointer (some ⟨b.bb,0,none⟩),.pointer (some ⟨b.sb,0,none⟩),.pointer (some ⟨b.lb,0,none⟩)]) /\ Below w.heap.size w w':=by
  have c0:=h.c0
  have c1:=h.c1
  have c2:=h.c2
  have hlt:=h.lt
  obtain ⟨vb,bb,sb,lb,db,mb,tb⟩:=b
  simp only at c0 c1 c2 hlt ⊢
  clear h
  go_enter Tryz.func106,Tryz.ntmps106
  go_wp2_with fail
  refine bodyPost_ret (v:=.agg #[.pointer (some ⟨bb,0,none⟩),.pointer (some ⟨sb,0,none⟩),.pointer (some ⟨lb,0,none⟩)]) (by simp [results,Tryz.results106,go_sem]) rfl ?_
  exact ⟨rfl,(Below.refl _ _).alloc (Nat.le_refl _) _⟩
theorem aBt {w:World} {b:VB} {ev fv:Value} {el:bF} {D:aA} {V:cC} (h:aX w b ev fv el D V) :
    Calls Tryz.prog 102 #[.pointer (some ⟨b.vb,0,none⟩)] w fun e w'=>e = .returned (.int .i64 (if V.br then 50 else 0)) /\ w = w':=by
  have c0:=h.c0
  have c3:=h.c3
  obtain ⟨vb,bb,sb,lb,db,mb,tb⟩:=b
  obtain ⟨t,v,s,L,br⟩:=V
  simp only at c0 c3 ⊢
  clear h
  cases br
  . go_enter Tryz.func102,Tryz.ntmps102
    go_wp2_with fail
    go_ret
    exact ⟨rfl,rfl⟩
  . go_enter Tryz.func102,Tryz.ntmps102
    go_wp2_with fail
    go_ret
    exact ⟨rfl,rfl⟩
theorem gQ {w:World} {b:VB} {ev fv:Value} {el:bF} {D:aA} {V:cC} (h:aX w b ev fv el D V) (n:Nat) :
    Calls Tryz.prog 103 #[.pointer (some ⟨b.vb,0,none⟩),.int .i64 n] w fun e w'=>e = .returned (.int .i64 n) /\ aX w' b ev fv el D { V with br:=V.br || decide (n = 50) } /\ Kept w w' (fun k=>k = b.vb):=by
  have HH:=hid h
  have c3:=h.c3
  have f3:=h.f3
  clear h
  cases hbr:V.br with
  | true =>
    rw [hbr] at c3
    clear hbr
    have FIN:=hid (HH.out.aI6 true)
    have K:=hid (Kept.setCell w ⟨b.vb,3,none⟩ (.bool true))
    obtain ⟨vb,bb,sb,lb,db,mb,tb⟩:=b
    simp only at c3 f3 ⊢
    go_enter Tryz.func103,Tryz.ntmps103
    go_wp2_with fail
    go_ret
    exact ⟨rfl,FIN.out,K.out⟩
  | false =>
    rw [hbr] at c3
    clear hbr
    obtain ⟨x,hx⟩:∃ x,decide (n = 50) = x:=⟨_,rfl⟩
    have hb:((n:Int) == 50) = x:=by rw [<- hx,Bool.eq_iff_iff,beq_iff_eq,decide_eq_true_iff];omega
    have FIN:=hid (HH.out.aI6 x)
    have K:=hid (Kept.setCell w ⟨b.vb,3,none⟩ (.bool x))
    rw [hx,Bool.false_or]
    obtain ⟨vb,bb,sb,lb,db,mb,tb⟩:=b
    simp only at c3 f3 ⊢
    clear hx
    go_enter Tryz.func103,Tryz.ntmps103
    go_wp2_with fail
    go_ret
    exact ⟨rfl,FIN.out,K.out⟩
theorem aD8 {w:World} {b:VB} {ev fv:Value} {el:bF} {D:aA} {V:cC} (h:aX w b ev fv el D V) :
    Calls Tryz.prog 43 #[.pointer (some ⟨b.vb,0,none⟩)] w fun e w'=>e = .returned (.bool V.br) /\ w = w':=by
  have c3:=h.c3
  obtain ⟨vb,bb,sb,lb,db,mb,tb⟩:=b
  simp only at c3 ⊢
  clear h
  go_enter Tryz.func43,Tryz.ntmps43
  go_wp2_with fail
  go_ret
  exact ⟨rfl,rfl⟩
set_option maxRecDepth 20000 in
theorem aGs {w:World} {b:VB} {ev fv:Value} {el:bF} {D:aA} {V:cC} (h:aX w b ev fv el D V) (hl:(V.L.b:Int) + 1 < 18446744073709551616) :
    Calls Tryz.prog 49 #[.pointer (some ⟨b.vb,0,none⟩)] w fun e w'=>e = .returned (.int .u64 ((V.L.b:Int) + 1)) /\ Below w.heap.size w w':=by
  have HH:=hid h
  have HLL:=hid hl
  clear h hl
  obtain ⟨vb,bb,sb,lb,db,mb,tb⟩:=b
  simp only
  go_enter Tryz.func49,Tryz.ntmps49
  go_wp2_with fail
  refine (tK HH.out).mono ?_
  rintro e w1 ⟨rfl,hb1⟩
  dsimp only
  have hfd:=aBs bb sb lb
  have B1:=hid hb1
  clear hb1
  go_wp2_with fail
  refine (aEh (HH.out.below B1.out).log HLL.out).mono ?_
  rintro e w2 ⟨rfl,rfl⟩
  go_wp2_with fail
  go_ret
  exact ⟨rfl,B1.out⟩
set_option maxRecDepth 20000 in
theorem aCP {w:World} {b:VB} {ev fv:Value} {el:bF} {D:aA} {V:cC} (h:aX w b ev fv el D V) (hl:(V.L.last:Int) < 18446744073709551616) :
    Calls Tryz.prog 45 #[.pointer (some ⟨b.vb,0,none⟩)] w fun e w'=>e = .returned (.int .u64 V.L.last) /\ Below w.heap.size w w':=by
  have HH:=hid h
  have HLL:=hid hl
  clear h hl
  obtain ⟨vb,bb,sb,lb,db,mb,tb⟩:=b
  simp only
  go_enter Tryz.func45,Tryz.ntmps45
  go_wp2_with fail
  refine (tK HH.out).mono ?_
  rintro e w1 ⟨rfl,hb1⟩
  dsimp only
  have hfd:=aBs bb sb lb
  have B1:=hid hb1
  clear hb1
  go_wp2_with fail
  refine (gZ (HH.out.below B1.out).log HLL.out).mono ?_
  rintro e w2 ⟨rfl,hb2⟩
  have B2:Hid (Below w.heap.size w w2):=hid (B1.out.trans (hb2.mono B1.out.size))
  clear hb2
  go_wp2_with fail
  go_ret
  exact ⟨rfl,B2.out⟩
set_option maxRecDepth 20000 in
theorem aH0 {w:World} {b:VB} {ev fv:Value} {el:bF} {D:aA} {V:cC} (h:aX w b ev fv el D V) (hl:V.L.last <= H59) (hn:V.L.es.length <= 2147483648) (index:Nat) (hi:(index:Int) < 18446744073709551616) (most:Int) (hmo:most <= 9223372036854775807) :
    Calls Tryz.prog 52 #[.pointer (some ⟨b.vb,0,none⟩),.int .u64 index,.int .i64 most] w (aIY V.L index most w):=by
  have HH:=hid h
  have HLL:=hid hl
  have HN:=hid hn
  have HI:=hid hi
  have HM:=hid hmo
  clear h hl hn hi hmo
  obtain ⟨vb,bb,sb,lb,db,mb,tb⟩:=b
  simp only
  go_enter Tryz.func52,Tryz.ntmps52
  go_wp2_with fail
  refine (tK HH.out).mono ?_
  rintro e w1 ⟨rfl,hb1⟩
  dsimp only
  have hfd:=aBs bb sb lb
  have B1:=hid hb1
  clear hb1
  go_wp2_with fail
  refine (aJ7 (HH.out.below B1.out).log HLL.out HN.out index HI.out most HM.out).mono ?_
  rintro e w2 ⟨v',l',rfl,ho,hm,hd,hn2,hb2⟩
  obtain ⟨a2,n2,c2,rfl⟩:=eE ho
  go_wp2_with fail
  go_ret
  exact ⟨_,l',rfl,ho,hm,hd.mono fun p hp k _ hk=>Nat.lt_of_lt_of_le hk B1.out.size,fun k hk=>Nat.le_trans B1.out.size (hn2 k hk),B1.out.trans (hb2.mono B1.out.size)⟩

theorem cU.uS {w:World} {i t:Int} {mv dv:Value} {s:bI} (h:cU w (.agg #[.int .u64 i,.int .u64 t,mv,dv]) s):i = s.i /\ t = s.t /\ (∃ a n c,mv = .slice a n c) /\ ∃ a n c,dv = .slice a n c:=by
  obtain ⟨m,d,e,h1,h2⟩:=h
  simp only [Value.agg.injEq,Array.mk.injEq,List.cons.injEq,Value.int.injEq,true_and,and_true] at e
  obtain ⟨e1,e2,rfl,rfl⟩:=e
  obtain ⟨a,c,e3,_⟩:=h1.shape
  obtain ⟨a',c',e4,_⟩:=h2.shape
  exact ⟨e1,e2,⟨_,_,_,e3⟩,⟨_,_,_,e4⟩⟩
set_option maxRecDepth 20000 in
theorem wS {w:World} {b:VB} {ev fv:Value} {el:bF} {D:aA} {V:cC} (h:aX w b ev fv el D V) :
    Calls Tryz.prog 47 #[.pointer (some ⟨b.vb,0,none⟩)] w (aJM V.s w):=by
  have HH:=hid h
  clear h
  obtain ⟨vb,bb,sb,lb,db,mb,tb⟩:=b
  simp only
  go_enter Tryz.func47,Tryz.ntmps47
  go_wp2_with fail
  generalize hW1:World.alloc w _ = W1
  have A1:Hid (Below w.heap.size w W1):=hid (by subst hW1;exact (Below.refl _ _).alloc (Nat.le_refl _) _)
  have X1:Hid (bZ W1 w.heap.size 0 0 (.slice none 0 0) (.slice none 0 0)):=hid (by subst hW1;exact bZ.new w)
  clear hW1
  refine (tK (HH.out.below A1.out)).mono ?_
  rintro e w1 ⟨rfl,hb1⟩
  dsimp only
  have hfd:=aJF bb sb lb
  have B1:Hid (Below w.heap.size w w1):=hid (A1.out.trans (hb1.mono A1.out.size))
  have X2:=hid (X1.out.below hb1)
  clear hb1
  go_wp2_with fail
  refine (aCA (some ⟨sb,0,none⟩) db mb tb V.s w1 (.inr ⟨sb,rfl,(HH.out.below B1.out).store.is,HH.out.sok⟩)).mono ?_
  rintro e w2 ⟨i,t,mv,dv,rfl,hs,hb2⟩
  obtain ⟨rfl,rfl,⟨am,nm,cm,rfl⟩,⟨ad,nd,cd,rfl⟩⟩:=hs.uS
  have HS:=hid hs
  have B2:Hid (Below w.heap.size w w2):=hid (B1.out.trans (hb2.mono B1.out.size))
  have X3:=hid (X2.out.below hb2)
  obtain ⟨q0,q1,q2,q3,g0,g1,g2,g3⟩:=X3.out
  clear hb2 hs hfd
  go_wp2_with fail
  generalize hwF:World.setCell _ _ _ = wF
  have RF:Hid (bZ wF w.heap.size V.s.i V.s.t (.slice am nm cm) (.slice ad nd cd)):=hid (by subst hwF;exact X3.out.iU _ _ _ _)
  have BF:Hid (Below w.heap.size w wF):=hid (by subst hwF;exact B2.out.trans ((Kept.iU w2 w.heap.size _ _ _ _).below B2.out.size (fun k hk=>by omega)))
  have SF:Hid (cU wF (.agg #[.int .u64 V.s.i,.int .u64 V.s.t,.slice am nm cm,.slice ad nd cd]) V.s):=hid (by subst hwF;exact cU.iU X3.out HS.out _ _ _ _)
  clear hwF q0 q1 q2 q3 g0 g1 g2 g3
  obtain ⟨q0,q1,q2,q3,_,_,_,_⟩:=RF.out
  refine bodyPost_ret (v:=.tuple #[.agg #[.int .u64 V.s.i,.int .u64 V.s.t,.slice am nm cm,.slice ad nd cd],.bool (decide (0 < V.s.i))]) (by simp [results,Tryz.results47,go_sem,q0,q1,q2,q3]) rfl ?_
  exact ⟨_,_,_,_,rfl,SF.out,BF.out⟩
set_option maxRecDepth 20000 in
theorem tL {w:World} {b:VB} {ev fv:Value} {el:bF} {D:aA} {V:cC} (h:aX w b ev fv el D V) :
    Calls Tryz.prog 50 #[.pointer (some ⟨b.vb,0,none⟩)] w fun e w'=>e = .returned (.int .u64 V.s.i) /\ Below w.heap.size w w':=by
  have HH:=hid h
  clear h
  obtain ⟨vb,bb,sb,lb,db,mb,tb⟩:=b
  simp only
  go_enter Tryz.func50,Tryz.ntmps50
  go_wp2_with fail
  refine (wS HH.out).mono ?_
  rintro e w1 ⟨i,t,mv,dv,rfl,hs,hb1⟩
  obtain ⟨rfl,rfl,⟨am,nm,cm,rfl⟩,⟨ad,nd,cd,rfl⟩⟩:=hs.uS
  have B1:=hid hb1
  clear hb1 hs
  go_wp2_with fail
  go_ret
  exact ⟨rfl,B1.out.alloc B1.out.size _⟩
def atW (L:aK) (index:Nat):Option bV:=if index <= L.b then none else L.es[index - L.b - 1]?
def AtP (o:Option bV) (w:World):Ending -> World -> Prop:=fun e w'=>∃ a n c,e = .returned (.tuple #[.agg #[.int .u64 (o.getD ⟨0,0,[]⟩).t,.int .i64 (o.getD ⟨0,0,[]⟩).k,.slice a n c],.bool o.isSome]) /\ Bytes w' (.slice a n c) (o.getD ⟨0,0,[]⟩).d /\ (∀ b,(Value.slice a n c).ownBlock = some b -> w.heap.size <= b) /\ Below w.heap.size w w'
theorem aEU {lb db mb tb:Nat} {ev fv:Value} {el:bF} {D:aA} {L:aK} {w:World} (h:bC w lb db mb tb ev fv el D L) (hl:L.last <= H59) (hn:L.es.length <= 2147483648) (index:Nat) :
    Calls Tryz.prog 13 #[.pointer (some ⟨lb,0,none⟩),.int .u64 index] w (AtP (atW L index) w):=by
  have hlast:L.last = L.b + L.es.length:=rfl
  unfold atW
  by_cases hi:index <= L.b
  . rw [if_pos hi]
    refine (aH2 h hl index (.inl hi)).mono ?_
    rintro e w1 ⟨rfl,hb⟩
    exact ⟨none,0,0,rfl,Bytes.nil _,fun b hb=>by simp [Value.ownBlock] at hb,hb⟩
  . rw [if_neg hi]
    cases hx:L.es[index - L.b - 1]? with
    | none =>
      have:=List.getElem?_eq_none_iff.1 hx
      refine (aH2 h hl index (.inr (by omega))).mono ?_
      rintro e w1 ⟨rfl,hb⟩
      exact ⟨none,0,0,rfl,Bytes.nil _,fun b hb=>by simp [Value.ownBlock] at hb,hb⟩
    | some x =>
      refine (aIT h hl hn index (by omega) hx).mono ?_
      rintro e w1 ⟨dv,rfl,hB,hN,hb⟩
      obtain ⟨a,c,rfl,_⟩:=hB.shape
      exact ⟨a,_,c,rfl,hB,hN,hb⟩
set_option maxRecDepth 20000 in
theorem aJE {w:World} {b:VB} {ev fv:Value} {el:bF} {D:aA} {V:cC} (h:aX w b ev fv el D V) (hl:V.L.last <= H59) (hn:V.L.es.length <= 2147483648) (index:Nat) :
    Calls Tryz.prog 46 #[.pointer (some ⟨b.vb,0,none⟩),.int .u64 index] w (AtP (atW V.L index) w):=by
  have HH:=hid h
  have HLL:=hid hl
  have HN:=hid hn
  clear h hl hn
  obtain ⟨vb,bb,sb,lb,db,mb,tb⟩:=b
  simp only
  go_enter Tryz.func46,Tryz.ntmps46
  go_wp2_with fail
  generalize hW1:World.alloc w _ = W1
  have A1:Hid (Below w.heap.size w W1):=hid (by subst hW1;exact (Below.refl _ _).alloc (Nat.le_refl _) _)
  have X1:Hid (EC W1 w.heap.size 0 0 (.slice none 0 0)):=hid (by subst hW1;exact EC.box w)
  clear hW1
  refine (tK (HH.out.below A1.out)).mono ?_
  rintro e w1 ⟨rfl,hb1⟩
  dsimp only
  have hfd:=aBs bb sb lb
  have B1:Hid (Below w.heap.size w w1):=hid (A1.out.trans (hb1.mono A1.out.size))
  have X2:=hid (X1.out.below hb1)
  clear hb1
  go_wp2_with fail
  refine (aEU (HH.out.below B1.out).log HLL.out HN.out index).mono ?_
  rintro e w2 ⟨a,n,c,rfl,hB,hN,hb2⟩
  have HB:=hid hB
  have HNN:Hid (∀ b,(Value.slice a n c).ownBlock = some b -> w.heap.size < b):=hid fun b hb=>Nat.lt_of_lt_of_le X2.out.lt (hN b hb)
  have B2:Hid (Below w.heap.size w w2):=hid (B1.out.trans (hb2.mono B1.out.size))
  have X3:=hid (X2.out.below hb2)
  obtain ⟨q0,q1,q2,g0,g1,g2⟩:=X3.out
  clear hb2 hB hN hfd
  go_wp2_with fail
  have E3:=(X3.out.set ((atW V.L index).getD ⟨0,0,[]⟩).t ((atW V.L index).getD ⟨0,0,[]⟩).k).put (.slice a n c)
  have K3:=EC.oO w2 w.heap.size (.int .u64 ((atW V.L index).getD ⟨0,0,[]⟩).t) (.int .i64 ((atW V.L index).getD ⟨0,0,[]⟩).k) (.slice a n c)
  obtain ⟨r0,r1,r2,_,_,_⟩:=E3
  refine bodyPost_ret (v:=.tuple #[.agg #[.int .u64 ((atW V.L index).getD ⟨0,0,[]⟩).t,.int .i64 ((atW V.L index).getD ⟨0,0,[]⟩).k,.slice a n c],.bool (atW V.L index).isSome]) (by simp [results,Tryz.results46,go_sem,r0,r1,r2]) rfl ?_
  exact ⟨a,n,c,rfl,HB.out.kept K3 (fun b hb e=>by have:=HNN.out b hb;omega),fun b hb=>Nat.le_of_lt (HNN.out b hb),B2.out.trans (K3.below B2.out.size fun k e=>by omega)⟩

def gR (b:VB) (ev fv:Value) (r:aA × cC × Nat) (w:World):Ending -> World -> Prop:=fun e w' =>
  e = .returned (.int .i64 r.2.2) /\ ∃ ev' fv' el',aX w' b ev' fv' el' r.1 r.2.1 /\ cI b w ev fv w' ev' fv'
theorem cI.told {b:VB} {w w':World} {ev fv:Value} (h:Kept w w' (fun k=>k = b.vb)):cI b w ev fv w' ev fv:=⟨h.mono fun _ _ e=>.inl e,fun _ h=>.inl h,fun _ h=>.inl h⟩
theorem iJ {w:World} {b:VB} {ev fv:Value} {el:bF} {D:aA} {V:cC} (h:aX w b ev fv el D V) (hb:V.br = false) :
    Calls Tryz.prog 102 #[.pointer (some ⟨b.vb,0,none⟩)] w fun e w'=>e = .returned (.int .i64 0) /\ w = w':=by
  refine (aBt h).mono ?_
  rw [hb]
  exact fun e w' h=>h
def dV (D:aA) (V:cC) (ms:List bV):aA × cC × Nat :=
  if V.br = true then (D,V,50)
  else if (aP D V.L ms).2.2 ≠ 0 then ((aP D V.L ms).1,{ V with L:=(aP D V.L ms).2.1,br:=decide ((aP D V.L ms).2.2 = 50) },(aP D V.L ms).2.2)
  else ((bJ (aP D V.L ms).1 (aP D V.L ms).2.1).1,{ V with L:=(bJ (aP D V.L ms).1 (aP D V.L ms).2.1).2.1,br:=decide ((bJ (aP D V.L ms).1 (aP D V.L ms).2.1).2.2 = 50) },(bJ (aP D V.L ms).1 (aP D V.L ms).2.1).2.2)
def sD (D:aA) (V:cC) (frm:Nat):aA × cC × Nat :=
  if V.br = true then (D,V,50) else if (frm:Int) <= V.s.i then (D,V,2)
  else ((fW D V.L frm).1,{ V with L:=(fW D V.L frm).2.1,br:=decide ((fW D V.L frm).2.2 = 50) },(fW D V.L frm).2.2)
theorem aX.end {w w' w2:World} {b:VB} {ev fv ev' fv':Value} {el':bF} {D':aA} {V:cC} {L':aK} {n:Nat} (hb:V.br = false) (hs:cI b w ev fv w' ev' fv')
    (ht:aX w2 b ev' fv' el' D' { V with L:=L',br:=V.br || decide (n = 50) }) (hk:Kept w' w2 (fun k=>k = b.vb)):gR b ev fv (D',{ V with L:=L',br:=decide (n = 50) },n) w (.returned (.int .i64 n)) w2:=by
  rw [hb,Bool.false_or] at ht
  exact ⟨rfl,ev',fv',el',ht,hs.trans (cI.told hk)⟩
set_option maxRecDepth 20000 in
theorem yZ {w:World} {b:VB} {ev fv mv:Value} {el ml:bF} {D:aA} {V:cC} (h:aX w b ev fv el D V) (hi:jG D V.L) (hst:D.steps + 200 <= 1000000000) (hm:qO w (jH b.lb b.db b.mb b.tb ev fv) mv ml) (hf:Few ml) (hb:V.br = false) :
    Calls Tryz.prog 42 #[.pointer (some ⟨b.vb,0,none⟩),mv] w (gR b ev fv (dV D V (ml.map (·.1))) w):=by
  obtain ⟨P,hinv⟩:=hi.inv
  have hlaw:=rH hinv hi.up hi.ris (ml.map (·.1))
  have hre:=(nZ D V.L (ml.map (·.1))).eN hi.eN (by omega)
  have HH:=hid h
  have HB:=hid hb
  have HI:=hid hi
  have HIN:=hid hinv
  have HST:Hid (D.steps + 1 <= 1000000000):=hid (by omega)
  have HF:=hid hf
  have HM:=hid hm
  have c2:=h.c2
  have HR:Hid (dV D V (ml.map (·.1)) = if (aP D V.L (ml.map (·.1))).2.2 ≠ 0 then ((aP D V.L (ml.map (·.1))).1,{ V with L:=(aP D V.L (ml.map (·.1))).2.1,br:=decide ((aP D V.L (ml.map (·.1))).2.2 = 50) },(aP D V.L (ml.map (·.1))).2.2)
      else ((bJ (aP D V.L (ml.map (·.1))).1 (aP D V.L (ml.map (·.1))).2.1).1,{ V with L:=(bJ (aP D V.L (ml.map (·.1))).1 (aP D V.L (ml.map (·.1))).2.1).2.1,br:=decide ((bJ (aP D V.L (ml.map (·.1))).1 (aP D V.L (ml.map (·.1))).2.1).2.2 = 50) },(bJ (aP D V.L (ml.map (·.1))).1 (aP D V.L (ml.map (·.1))).2.1).2.2)):=hid (by unfold dV;rw [if_neg (by rw [hb];decide)])
  obtain ⟨ma,mc,rfl,_⟩:=hm.row.shape
  obtain ⟨r,hr⟩:∃ r,aP D V.L (ml.map (·.1)) = r:=⟨_,rfl⟩
  have WA:=hid (aCW h.log hinv hi.eN (by omega) hm hf)
  rw [hr] at HR WA hlaw hre
  obtain ⟨D1,L1,n⟩:=r
  dsimp only at HR hlaw hre
  have c2':∀ w' ev' fv',aQ b.lb b.db b.mb b.tb w ev fv w' ev' fv' -> w'.cell? ⟨b.vb,2,none⟩ = some (.pointer (some ⟨b.lb,0,none⟩)):=fun _ _ _ hs=>hs.1.cell h.c2 h.nv
  have C2:=hid c2'
  by_cases hn:n = 0
  . subst hn
    rw [if_neg (by decide)] at HR
    have hup:mN (D1,L1,0):=hlaw.resolve_right fun q=>by cases q.2.1
    obtain ⟨u1,u2,P1,hinv1⟩:=hup
    have HX:=hid hre.1.wf
    have HOK:=hid (hinv1.lok hre.1).1
    have HFW:Hid (L1.fs.length <= 1000000):=hid (by have:=hinv1.few hre.1;dsimp only at this;omega)
    have HE:=hid hinv1.empty
    clear h hi hst hm hf hb hinv hlaw hre hr u1 u2 c2' HI HIN HST HF HM
    dsimp only at HOK HE
    obtain ⟨vb,bb,sb,lb,db,mb,tb⟩:=b
    dsimp only at WA C2 c2 ⊢
    go_enter Tryz.func42,Tryz.ntmps42
    go_wp2_with fail
    refine (iJ HH.out HB.out).mono ?_
    rintro e w1 ⟨rfl,rfl⟩
    dsimp only
    go_wp2_with fail
    refine WA.out.mono ?_
    rintro e w1 ⟨rfl,ev1,fv1,el1,hl1,hs1⟩
    have LS:=hid hs1
    have H1:=hid (HH.out.kK hl1 hs1)
    have c21:=C2.out _ _ _ hs1
    clear hl1 hs1 c2
    dsimp only
    go_wp2_with fail
    refine (aI8 H1.out.log HX.out HOK.out HFW.out HE.out).mono ?_
    rintro e w2 ⟨rfl,ev2,fv2,el2,hl2,hs2⟩
    have H2:=hid (H1.out.kK hl2 hs2)
    have VS:=hid ((cI.kL (b:=⟨vb,bb,sb,lb,db,mb,tb⟩) LS.out).trans (cI.kL (b:=⟨vb,bb,sb,lb,db,mb,tb⟩) hs2))
    clear hl2 hs2 c21
    dsimp only
    go_wp2_with fail
    refine (gQ H2.out _).mono ?_
    rintro e w3 ⟨rfl,hv3,hk3⟩
    have FIN:=hid (aX.end HB.out VS.out hv3 hk3)
    clear hv3 hk3
    dsimp only
    go_wp2_with fail
    go_ret
    rw [HR.out]
    exact FIN.out
  . rw [if_pos hn] at HR
    have hx:((n:Int) == 0) = false:=beq_eq_false_iff_ne.2 (by omega)
    clear h hi hst hm hf hb hinv hlaw hre hr c2' HI HIN HST HF HM hn C2
    obtain ⟨vb,bb,sb,lb,db,mb,tb⟩:=b
    dsimp only at WA c2 ⊢
    go_enter Tryz.func42,Tryz.ntmps42
    go_wp2_with fail
    refine (iJ HH.out HB.out).mono ?_
    rintro e w1 ⟨rfl,rfl⟩
    dsimp only
    go_wp2_with fail
    refine WA.out.mono ?_
    rintro e w1 ⟨rfl,ev1,fv1,el1,hl1,hs1⟩
    have H1:=hid (HH.out.kK hl1 hs1)
    have VS:=hid (cI.kL (b:=⟨vb,bb,sb,lb,db,mb,tb⟩) hs1)
    clear hl1 hs1 c2
    dsimp only
    go_wp2_with fail
    refine (gQ H1.out n).mono ?_
    rintro e w3 ⟨rfl,hv3,hk3⟩
    have FIN:=hid (aX.end HB.out VS.out hv3 hk3)
    clear hv3 hk3
    dsimp only
    go_wp2_with fail
    go_ret
    rw [HR.out]
    exact FIN.out
theorem gR.back {b:VB} {ev fv:Value} {r:aA × cC × Nat} {w w0 w':World} {E:Ending} (h:gR b ev fv r w0 E w') (hb:Below w.heap.size w w0):gR b ev fv r w E w':=by
  obtain ⟨e,ev',fv',el',h1,h2⟩:=h
  exact ⟨e,ev',fv',el',h1,(cI.below hb).trans h2⟩
set_option maxRecDepth 20000 in
theorem aIS {w:World} {b:VB} {ev fv:Value} {el:bF} {D:aA} {V:cC} (h:aX w b ev fv el D V) (hi:jG D V.L) (hst:D.steps + 200 <= 1000000000) (frm:Nat) (hfr:(frm:Int) < 18446744073709551616) (hb:V.br = false) :
    Calls Tryz.prog 104 #[.pointer (some ⟨b.vb,0,none⟩),.int .u64 frm] w (gR b ev fv (sD D V frm) w):=by
  have HH:=hid h
  have HB:=hid hb
  have HI:=hid hi
  have HST:=hid hst
  have HFR:=hid hfr
  have hb2:¬ V.br = true:=by rw [hb];decide
  by_cases hc:(frm:Int) <= V.s.i
  . have HR:Hid (sD D V frm = (D,V,2)):=hid (by unfold sD;rw [if_neg hb2,if_pos hc])
    have hx:decide ((frm:Int) <= V.s.i) = true:=decide_eq_true hc
    clear h hi hst hfr hb hb2 hc
    obtain ⟨vb,bb,sb,lb,db,mb,tb⟩:=b
    simp only
    go_enter Tryz.func104,Tryz.ntmps104
    go_wp2_with fail
    refine (iJ HH.out HB.out).mono ?_
    rintro e w1 ⟨rfl,rfl⟩
    dsimp only
    go_wp2_with fail
    refine (tL HH.out).mono ?_
    rintro e w1 ⟨rfl,hb1⟩
    have B1:=hid hb1
    clear hb1
    dsimp only
    go_wp2_with fail
    go_ret
    rw [HR.out]
    exact ⟨rfl,ev,fv,el,HH.out.below B1.out,cI.below B1.out⟩
  . have HR:Hid (sD D V frm = ((fW D V.L frm).1,{ V with L:=(fW D V.L frm).2.1,br:=decide ((fW D V.L frm).2.2 = 50) },(fW D V.L frm).2.2)):=hid (by unfold sD;rw [if_neg hb2,if_neg hc])
    have hx:decide ((frm:Int) <= V.s.i) = false:=decide_eq_false hc
    clear h hi hst hfr hb hb2 hc
    obtain ⟨vb,bb,sb,lb,db,mb,tb⟩:=b
    simp only
    go_enter Tryz.func104,Tryz.ntmps104
    go_wp2_with fail
    refine (iJ HH.out HB.out).mono ?_
    rintro e w1 ⟨rfl,rfl⟩
    dsimp only
    go_wp2_with fail
    refine (tL HH.out).mono ?_
    rintro e w1 ⟨rfl,hb1⟩
    have B1:=hid hb1
    have H1:=hid (HH.out.below hb1)
    have c2:=H1.out.c2
    clear hb1
    dsimp only at c2 ⊢
    go_wp2_with fail
    refine (aKs H1.out.log HI.out HST.out frm HFR.out).mono ?_
    rintro e w2 ⟨rfl,ev2,fv2,el2,hl2,hs2⟩
    have H2:=hid (H1.out.kK hl2 hs2)
    have VS:=hid ((cI.below (b:=⟨vb,bb,sb,lb,db,mb,tb⟩) (ev:=ev) (fv:=fv) B1.out).trans (cI.kL (b:=⟨vb,bb,sb,lb,db,mb,tb⟩) hs2))
    clear hl2 hs2 c2
    dsimp only
    go_wp2_with fail
    refine (gQ H2.out _).mono ?_
    rintro e w3 ⟨rfl,hv3,hk3⟩
    have FIN:=hid (aX.end HB.out VS.out hv3 hk3)
    clear hv3 hk3
    dsimp only
    go_wp2_with fail
    go_ret
    rw [HR.out]
    exact FIN.out

def oN (D:aA) (V:cC) (t v:Int):aA × cC × Nat :=
  if V.br = true then (D,V,50)
  else ((dE D V.t V.v t v).1,{ V with t:=if (dE D V.t V.v t v).2 = 0 then t else V.t,v:=if (dE D V.t V.v t v).2 = 0 then v else V.v,br:=decide ((dE D V.t V.v t v).2 = 50) },(dE D V.t V.v t v).2)
theorem cI.aHh {b:VB} {w w':World} {ev fv:Value} (h:Kept w w' (fun k=>bA b.db b.mb b.tb k \/ k = b.bb)):cI b w ev fv w' ev fv :=
  ⟨h.mono fun _ _ e=>e.elim (fun e=>.inr (.inr (.inr (.inr (.inl e))))) (fun e=>.inr (.inl e)),fun _ h=>.inl h,fun _ h=>.inl h⟩
theorem aX.aKg {w w' w2:World} {b:VB} {ev fv ev' fv':Value} {el':bF} {D':aA} {V:cC} {t v:Int} {n:Nat} (hb:V.br = false) (hs:cI b w ev fv w' ev' fv')
    (ht:aX w2 b ev' fv' el' D' { V with t:=t,v:=v,br:=V.br || decide (n = 50) }) (hk:Kept w' w2 (fun k=>k = b.vb)):gR b ev fv (D',{ V with t:=t,v:=v,br:=decide (n = 50) },n) w (.returned (.int .i64 n)) w2:=by
  rw [hb,Bool.false_or] at ht
  exact ⟨rfl,ev',fv',el',ht,hs.trans (cI.told hk)⟩
set_option maxRecDepth 20000 in
theorem aH1 {w:World} {b:VB} {ev fv:Value} {el:bF} {D:aA} {V:cC} (h:aX w b ev fv el D V) (hg:aS D) (hst:D.steps + 4 <= 1000000000) (t' v':Int) (ht:0 <= t') (hb:V.br = false) :
    Calls Tryz.prog 105 #[.pointer (some ⟨b.vb,0,none⟩),.agg #[.int .u64 t',.int .i64 v']] w (gR b ev fv (oN D V t' v') w):=by
  have HH:=hid h
  have HB:=hid hb
  have HG:=hid hg
  have HST:=hid hst
  have HT:=hid ht
  have HR:Hid (oN D V t' v' = ((dE D V.t V.v t' v').1,{ V with t:=if (dE D V.t V.v t' v').2 = 0 then t' else V.t,v:=if (dE D V.t V.v t' v').2 = 0 then v' else V.v,br:=decide ((dE D V.t V.v t' v').2 = 50) },(dE D V.t V.v t' v').2)):=hid (by unfold oN;rw [if_neg (by rw [hb];decide)])
  have HNB:Hid (¬ bA b.db b.mb b.tb b.bb):=hid fun e=>h.nb.2 (.inr (.inl e))
  clear h hg hst ht hb
  obtain ⟨vb,bb,sb,lb,db,mb,tb⟩:=b
  dsimp only at HNB ⊢
  go_enter Tryz.func105,Tryz.ntmps105
  go_wp2_with fail
  generalize hW1:World.alloc w _ = W1
  have B1:Hid (Below w.heap.size w W1):=hid (by subst hW1;exact (Below.refl _ _).alloc (Nat.le_refl _) _)
  have X1:Hid (SC W1 w.heap.size t' v'):=hid (by subst hW1;exact SC.box w t' v')
  have H1:=hid (HH.out.below B1.out)
  clear hW1
  refine (iJ H1.out HB.out).mono ?_
  rintro e w1 ⟨rfl,rfl⟩
  dsimp only
  have ST:=aM.from W1
  have DR:Hid (Below W1.heap.size W1 W1.drew):=hid (Below.refl W1.heap.size W1).drew
  have HD:Hid (aG W1.drew db mb tb D):=hid (H1.out.below DR.out).log.dO
  have HB9:Hid (dL W1.drew bb db V.t V.v):=hid (H1.out.below DR.out).book
  go_wp2_with fail
  refine aL [0,0,2,6,14,30,0,126,255,511] 0 (fun w'=>Below W1.heap.size W1 w') (by kernel_rfl) ?_
  refine aB [0,1,2,3,4,5,6] (by kernel_rfl) (L:=bm 10 127) (by kernel_rfl) (f':=3) rfl (fun _ _ _ _ h=>h) (fun w o h=>ST.alloc h o) (.inr (by first | exact Below.refl _ _ | exact (Below.refl _ _).drew)) ?_
  simp only [sF,sL]
  iterate 7 (first | (refine aO _ (by rfl) (fun w' hs=>by have c0:=(H1.out.below hs).c0;obtain ⟨x0,x1,_,_⟩:=X1.out.below hs;go_simp;try with_reducible rfl) rfl ?_;simp only [Act.put,sA]) | (refine aD _ (by rfl) (fun w'=>by go_simp;try with_reducible rfl) ?_;simp only [Act.put,sA]))
  refine aF ?_
  refine aI 7 (by kernel_rfl) (L:=bm 10 255) (by kernel_rfl) ?_
  simp only [sL]
  go_wp2_with fail;refine (aGn bb db mb tb D V.t V.v t' v' W1.drew HD.out HG.out HST.out HB9.out HNB.out HT.out).mono ?_;rintro e w2 ⟨rfl,hd2,hb2,hk2⟩;have H2:Hid (aX w2 ⟨vb,bb,sb,lb,db,mb,tb⟩ ev fv el _ _):=hid ((H1.out.below DR.out).aHh hd2 hb2 hk2);have VS:Hid (cI ⟨vb,bb,sb,lb,db,mb,tb⟩ w ev fv w2 ev fv):=hid ((cI.below (B1.out.trans (DR.out.mono B1.out.size))).trans (cI.aHh hk2));clear hd2 hb2 hk2;dsimp only;go_wp2_with fail
  refine aE nofun ?_
  refine aI 8 (by kernel_rfl) (L:=bm 10 511) (by kernel_rfl) ?_
  simp only [sL]
  go_wp2_with fail;refine (gQ H2.out _).mono ?_;rintro e w3 ⟨rfl,hv3,hk3⟩;have FIN:=hid (aX.aKg HB.out VS.out hv3 hk3);clear hv3 hk3;dsimp only;go_wp2_with fail
  refine aE nofun ?_
  refine aB [9] (by kernel_rfl) (L:=bm 10 1023) (by kernel_rfl) (f':=0) rfl (fun _ _ _ _ h=>h) (fun w o h=>ST.alloc h o) (.inl (by kernel_rfl)) ?_
  simp only [sF,sL]
  iterate 1 (refine aD _ (by rfl) (fun w'=>by go_simp;try with_reducible rfl) ?_;simp only [Act.put,sA])
  refine aF ?_
  refine aR (by kernel_rfl) ?_
  go_wp2_with fail
  go_ret
  rw [HR.out]
  exact FIN.out

def gM (D:aA) (V:cC) (x:bI):aA × cC × Nat :=
  if V.br = true then (D,V,50)
  else if (cJ D V.s x).2 ≠ 0 then ((cJ D V.s x).1,{ V with br:=decide ((cJ D V.s x).2 = 50) },(cJ D V.s x).2)
  else if (atW V.L x.i.toNat).any (fun y=>y.t == x.t) = true then ((eF (cJ D V.s x).1 V.L x.i.toNat).1,{ V with s:=x,L:=(eF (cJ D V.s x).1 V.L x.i.toNat).2.1,br:=decide ((eF (cJ D V.s x).1 V.L x.i.toNat).2.2 = 50) },(eF (cJ D V.s x).1 V.L x.i.toNat).2.2)
  else ((bH (cJ D V.s x).1 V.L x.i.toNat).1,{ V with s:=x,L:=(bH (cJ D V.s x).1 V.L x.i.toNat).2.1,br:=decide ((bH (cJ D V.s x).1 V.L x.i.toNat).2.2 = 50) },(bH (cJ D V.s x).1 V.L x.i.toNat).2.2)
theorem cI.aCd {b:VB} {w w':World} {ev fv:Value} (h:Kept w w' (fun k=>bA b.db b.mb b.tb k \/ k = b.sb)):cI b w ev fv w' ev fv :=
  ⟨h.mono fun _ _ e=>e.elim (fun e=>.inr (.inr (.inr (.inr (.inl e))))) (fun e=>.inr (.inr (.inl e))),fun _ h=>.inl h,fun _ h=>.inl h⟩
theorem aX.off {w:World} {b:VB} {ev fv:Value} {el:bF} {D:aA} {V:cC} (h:aX w b ev fv el D V) {k:Nat} (hk:w.heap.size <= k):wZ b.vb b.bb b.lb b.db b.mb b.tb ev fv k :=
  ⟨fun e=>by have:=h.lt;omega,fun e=>by have:=h.book.lt;omega,fun e=>by have:=h.log.lN e;omega⟩
theorem aX.aDl {w w' w2:World} {b:VB} {ev fv ev' fv':Value} {el':bF} {D':aA} {V:cC} {s:bI} {L':aK} {n:Nat} (hb:V.br = false) (hs:cI b w ev fv w' ev' fv')
    (ht:aX w2 b ev' fv' el' D' { V with s:=s,L:=L',br:=V.br || decide (n = 50) }) (hk:Kept w' w2 (fun k=>k = b.vb)):gR b ev fv (D',{ V with s:=s,L:=L',br:=decide (n = 50) },n) w (.returned (.int .i64 n)) w2:=by
  rw [hb,Bool.false_or] at ht
  exact ⟨rfl,ev',fv',el',ht,hs.trans (cI.told hk)⟩
set_option maxRecDepth 20000 in
theorem aEb {w:World} {b:VB} {ev fv:Value} {el:bF} {D:aA} {V:cC} (h:aX w b ev fv el D V) (hg:aS D) (hst:D.steps + 300 <= 1000000000) (hl:V.L.last <= H59) (hn:V.L.es.length <= 2147483648) (n:Nat) (xt:Int) (xms:List Int) (xd:List Nat) (am ad:Option Addr) (nm cm nd cd:Nat) (hn9:(n:Int) < 18446744073709551616)
    (hxk:∀ w',Kept w w' (iT b ev fv) -> cU w' (.agg #[.int .u64 n,.int .u64 xt,.slice am nm cm,.slice ad nd cd]) ⟨(n:Int),xt,xms,xd⟩) (hb:V.br = false)
    {m:Nat} (he:(cJ D V.s ⟨(n:Int),xt,xms,xd⟩).2 = m) (hm:m ≠ 0) :
    Calls Tryz.prog 81 #[.pointer (some ⟨b.vb,0,none⟩),.agg #[.int .u64 n,.int .u64 xt,.slice am nm cm,.slice ad nd cd]] w (gR b ev fv (gM D V ⟨(n:Int),xt,xms,xd⟩) w):=by
  have HXN:Hid (¬ (bA b.db b.mb b.tb w.heap.size \/ w.heap.size = b.sb)):=hid fun e=>e.elim (fun e=>by have:=h.lN (k:=w.heap.size) (.inr (.inr (.inr (.inr (.inl e)))));omega) (fun e=>by have:=h.store.lt;omega)
  have HH:=hid h
  have HB:=hid hb
  have HG:=hid hg
  have HS4:Hid (D.steps + 4 <= 1000000000):=hid (by omega)
  have HXK:=hid hxk
  have HLL:=hid hl
  have HLN:=hid hn
  have HN9:=hid hn9
  have hb2:¬ V.br = true:=by rw [hb];decide
  have HR:Hid (gM D V ⟨(n:Int),xt,xms,xd⟩ = ((cJ D V.s ⟨(n:Int),xt,xms,xd⟩).1,{ V with br:=decide (m = 50) },m)):=hid (by unfold gM;rw [if_neg hb2,if_pos (by rw [he];exact hm),he])
  have HM0:=hid hm
  have HE9:=hid he
  have HOK9:=hid h.sok
  have hx:((m:Int) == 0) = false:=beq_eq_false_iff_ne.2 (by omega)
  clear h hg hst hl hn hxk hb hb2 he hm hn9 HLL HLN HN9
  obtain ⟨vb,bb,sb,lb,db,mb,tb⟩:=b
  dsimp only at HXN HXK ⊢
  go_enter Tryz.func81,Tryz.ntmps81
  go_wp2_with fail
  generalize hW1:World.alloc w _ = W1
  have B1:Hid (Below w.heap.size w W1):=hid (by subst hW1;exact (Below.refl _ _).alloc (Nat.le_refl _) _)
  have X1:Hid (bZ W1 w.heap.size n xt (.slice am nm cm) (.slice ad nd cd)):=hid (by subst hW1;exact bZ.box w _ _ _ _)
  have H1:=hid (HH.out.below B1.out)
  clear hW1
  refine (iJ H1.out HB.out).mono ?_
  rintro e w1 ⟨rfl,rfl⟩
  dsimp only
  have ST:=aM.from W1
  have DR:Hid (Below W1.heap.size W1 W1.drew):=hid (Below.refl W1.heap.size W1).drew
  have BW:Hid (Below w.heap.size w W1.drew):=hid (B1.out.trans (DR.out.mono B1.out.size))
  have HD:Hid (aG W1.drew db mb tb D):=hid (H1.out.below DR.out).log.dO
  have HQ9:Hid (∀ k,W1.drew.heap.size <= k -> wZ vb bb lb db mb tb ev fv k):=hid fun k hk=>(H1.out.below DR.out).off hk
  have HST9:Hid (cZ (wZ vb bb lb db mb tb ev fv) W1.drew sb db mb tb V.s):=hid (H1.out.below DR.out).store
  have HX9:Hid (cU W1.drew (.agg #[.int .u64 n,.int .u64 xt,.slice am nm cm,.slice ad nd cd]) ⟨(n:Int),xt,xms,xd⟩):=hid ((HXK.out w (Kept.refl _ _)).below BW.out)
  have HXK9:Hid (∀ w',Kept W1.drew w' (bA db mb tb) -> cU w' (.agg #[.int .u64 n,.int .u64 xt,.slice am nm cm,.slice ad nd cd]) ⟨(n:Int),xt,xms,xd⟩):=hid fun w' hk=>HXK.out w' ((Kept.aN BW.out (S:=iT ⟨vb,bb,sb,lb,db,mb,tb⟩ ev fv) fun k h1 h2=>by omega).trans (hk.mono fun _ _ e=>.inr (.inr (.inr (.inr (.inl e))))))
  go_wp2_with fail
  refine aL [0,1,3,7,15,0,63,127] 0 (fun w'=>Below W1.heap.size W1 w') (by kernel_rfl) ?_
  refine aB [0,1,2,3,4,5] (by kernel_rfl) (L:=bm 8 63) (by kernel_rfl) (f':=2) rfl (fun _ _ _ _ h=>h) (fun w o h=>ST.alloc h o) (.inr (by first | exact Below.refl _ _ | exact (Below.refl _ _).drew)) ?_
  simp only [sF,sL]
  iterate 6 (first | (refine aO _ (by rfl) (fun w' hs=>by have c1:=(H1.out.below hs).c1;obtain ⟨x0,x1,x2,x3,_,_,_,_⟩:=X1.out.below hs;go_simp;try with_reducible rfl) rfl ?_;simp only [Act.put,sA]) | (refine aD _ (by rfl) (fun w'=>by go_simp;try with_reducible rfl) ?_;simp only [Act.put,sA]))
  refine aF ?_
  refine aI 6 (by kernel_rfl) (L:=bm 8 127) (by kernel_rfl) ?_
  simp only [sL]
  go_wp2_with fail;refine (yN (wZ vb bb lb db mb tb ev fv) sb db mb tb V.s ⟨(n:Int),xt,xms,xd⟩ D _ W1.drew HQ9.out HST9.out HX9.out HXK9.out HD.out HG.out HS4.out).mono ?_;rintro e w2 ⟨rfl,hd2,hs2,hk2⟩;rw [HE9.out] at hs2 ⊢;rw [if_neg HM0.out] at hs2;have H2:Hid (aX w2 ⟨vb,bb,sb,lb,db,mb,tb⟩ ev fv el (cJ D V.s ⟨(n:Int),xt,xms,xd⟩).1 { V with s:=V.s }):=hid ((H1.out.below DR.out).aCd hd2 hs2 hk2 HOK9.out);have VS:Hid (cI ⟨vb,bb,sb,lb,db,mb,tb⟩ w ev fv w2 ev fv):=hid ((cI.below (B1.out.trans (DR.out.mono B1.out.size))).trans (cI.aCd hk2));have X2:=hid ((X1.out.below DR.out).kept hk2 HXN.out);clear hd2 hs2 hk2;dsimp only;go_wp2_with fail
  refine aE nofun ?_
  refine aB [7] (by kernel_rfl) (L:=bm 8 255) (by kernel_rfl) (f':=0) rfl (fun _ _ _ _ h=>h) (fun w o h=>ST.alloc h o) (.inl (by kernel_rfl)) ?_
  simp only [sF,sL]
  iterate 1 (refine aD _ (by rfl) (fun w'=>by go_simp;try with_reducible rfl) ?_;simp only [Act.put,sA])
  refine aF ?_
  refine aR (by kernel_rfl) ?_
  go_wp2_with fail
  refine (gQ H2.out _).mono ?_
  rintro e w7 ⟨rfl,hv7,hk7⟩
  have FIN:=hid (aX.aDl HB.out VS.out hv7 hk7)
  clear hv7 hk7
  dsimp only
  go_wp2_with fail
  go_ret
  rw [HR.out]
  exact FIN.out
theorem aEV {lb db mb tb:Nat} {ev fv:Value} {el:bF} {D:aA} {L:aK} {w:World} (h:bC w lb db mb tb ev fv el D L) (hl:L.last <= H59) (hn:L.es.length <= 2147483648) (index:Nat) {yt yk:Int} {okk:Bool} (h1:((atW L index).getD ⟨0,0,[]⟩).t = yt) (h2:((atW L index).getD ⟨0,0,[]⟩).k = yk) (h3:(atW L index).isSome = okk) :
    Calls Tryz.prog 13 #[.pointer (some ⟨lb,0,none⟩),.int .u64 index] w fun e w'=>∃ a n c,e = .returned (.tuple #[.agg #[.int .u64 yt,.int .i64 yk,.slice a n c],.bool okk]) /\ Below w.heap.size w w':=by
  subst h1 h2 h3
  exact (aEU h hl hn index).mono fun e w' ⟨a,n,c,he,_,_,hb⟩=>⟨a,n,c,he,hb⟩
theorem aI0 (o:Option bV) (xt:Int):o.any (fun y=>y.t == xt) = (o.isSome && (o.getD ⟨0,0,[]⟩).t == xt):=by cases o <;> rfl
set_option maxRecDepth 20000 in
theorem zB {w:World} {b:VB} {ev fv:Value} {el:bF} {D:aA} {V:cC} (h:aX w b ev fv el D V) (hg:aS D) (hst:D.steps + 300 <= 1000000000) (hl:V.L.last <= H59) (hn:V.L.es.length <= 2147483648) (n:Nat) (xt:Int) (xms:List Int) (xd:List Nat) (am ad:Option Addr) (nm cm nd cd:Nat) (hn9:(n:Int) < 18446744073709551616)
    (hxk:∀ w',Kept w w' (iT b ev fv) -> cU w' (.agg #[.int .u64 n,.int .u64 xt,.slice am nm cm,.slice ad nd cd]) ⟨(n:Int),xt,xms,xd⟩) (hb:V.br = false)
    (he:(cJ D V.s ⟨(n:Int),xt,xms,xd⟩).2 = 0) (hc:jG (cJ D V.s ⟨(n:Int),xt,xms,xd⟩).1 V.L) (h1:1 <= (n:Int))  :
    Calls Tryz.prog 81 #[.pointer (some ⟨b.vb,0,none⟩),.agg #[.int .u64 n,.int .u64 xt,.slice am nm cm,.slice ad nd cd]] w (gR b ev fv (gM D V ⟨(n:Int),xt,xms,xd⟩) w):=by
  have HXN:Hid (¬ (bA b.db b.mb b.tb w.heap.size \/ w.heap.size = b.sb)):=hid fun e=>e.elim (fun e=>by have:=h.lN (k:=w.heap.size) (.inr (.inr (.inr (.inr (.inl e)))));omega) (fun e=>by have:=h.store.lt;omega)
  have HH:=hid h
  have HB:=hid hb
  have HG:=hid hg
  have HS4:Hid (D.steps + 4 <= 1000000000):=hid (by omega)
  have HXK:=hid hxk
  have HLL:=hid hl
  have HLN:=hid hn
  have HN9:=hid hn9
  have hb2:¬ V.br = true:=by rw [hb];decide
  have hsg:=oD V.s (⟨(n:Int),xt,xms,xd⟩:bI) hg (by omega)
  obtain ⟨P,hinv⟩:=hc.inv
  have HC:=hid hc
  have HFS:Hid (V.L.fs.length <= 1000000):=hid (by have:=hinv.few hsg.1;omega)
  have HSR:Hid ((cJ D V.s ⟨(n:Int),xt,xms,xd⟩).1.steps + V.L.fs.length <= 1000000000):=hid (by have:=hinv.few hsg.1;omega)
  have HSD:Hid ((cJ D V.s ⟨(n:Int),xt,xms,xd⟩).1.steps + 200 <= 1000000000):=hid (by omega)
  have HOKL:=hid (hinv.lok hsg.1).1
  have HOK9:Hid ((⟨(n:Int),xt,xms,xd⟩:bI) = jF \/ 1 <= (⟨(n:Int),xt,xms,xd⟩:bI).i):=hid (.inr h1)
  have HE9:=hid he
  obtain ⟨yt,hyt⟩:∃ yt,((atW V.L n).getD ⟨0,0,[]⟩).t = yt:=⟨_,rfl⟩
  obtain ⟨yk,hyk⟩:∃ yk,((atW V.L n).getD ⟨0,0,[]⟩).k = yk:=⟨_,rfl⟩
  obtain ⟨okk,hyo⟩:∃ okk,(atW V.L n).isSome = okk:=⟨_,rfl⟩
  have HYT:=hid hyt
  have HYK:=hid hyk
  have HYS:=hid hyo
  have HRD:Hid ((okk && yt == xt) = true -> gM D V ⟨(n:Int),xt,xms,xd⟩ = ((eF (cJ D V.s ⟨(n:Int),xt,xms,xd⟩).1 V.L n).1,{ V with s:=⟨(n:Int),xt,xms,xd⟩,L:=(eF (cJ D V.s ⟨(n:Int),xt,xms,xd⟩).1 V.L n).2.1,br:=decide ((eF (cJ D V.s ⟨(n:Int),xt,xms,xd⟩).1 V.L n).2.2 = 50) },(eF (cJ D V.s ⟨(n:Int),xt,xms,xd⟩).1 V.L n).2.2)):=hid fun q=>by unfold gM;rw [if_neg hb2,if_neg (by rw [he];decide),if_pos (by dsimp only;rw [Int.toNat_natCast,aI0,hyt,hyo];exact q)];rfl
  have HRR:Hid ((okk && yt == xt) = false -> gM D V ⟨(n:Int),xt,xms,xd⟩ = ((bH (cJ D V.s ⟨(n:Int),xt,xms,xd⟩).1 V.L n).1,{ V with s:=⟨(n:Int),xt,xms,xd⟩,L:=(bH (cJ D V.s ⟨(n:Int),xt,xms,xd⟩).1 V.L n).2.1,br:=decide ((bH (cJ D V.s ⟨(n:Int),xt,xms,xd⟩).1 V.L n).2.2 = 50) },(bH (cJ D V.s ⟨(n:Int),xt,xms,xd⟩).1 V.L n).2.2)):=hid fun q=>by unfold gM;rw [if_neg hb2,if_neg (by rw [he];decide),if_neg (by dsimp only;rw [Int.toNat_natCast,aI0,hyt,hyo];rw [q];decide)];rfl
  clear h hg hst hl hn hxk hb hb2 hn9 he hc h1 hsg hinv hyt hyk hyo
  obtain ⟨vb,bb,sb,lb,db,mb,tb⟩:=b
  dsimp only at HXN HXK ⊢
  go_enter Tryz.func81,Tryz.ntmps81
  go_wp2_with fail
  generalize hW1:World.alloc w _ = W1
  have B1:Hid (Below w.heap.size w W1):=hid (by subst hW1;exact (Below.refl _ _).alloc (Nat.le_refl _) _)
  have X1:Hid (bZ W1 w.heap.size n xt (.slice am nm cm) (.slice ad nd cd)):=hid (by subst hW1;exact bZ.box w _ _ _ _)
  have H1:=hid (HH.out.below B1.out)
  clear hW1
  refine (iJ H1.out HB.out).mono ?_
  rintro e w1 ⟨rfl,rfl⟩
  dsimp only
  have ST:=aM.from W1
  have DR:Hid (Below W1.heap.size W1 W1.drew):=hid (Below.refl W1.heap.size W1).drew
  have BW:Hid (Below w.heap.size w W1.drew):=hid (B1.out.trans (DR.out.mono B1.out.size))
  have HD:Hid (aG W1.drew db mb tb D):=hid (H1.out.below DR.out).log.dO
  have HQ9:Hid (∀ k,W1.drew.heap.size <= k -> wZ vb bb lb db mb tb ev fv k):=hid fun k hk=>(H1.out.below DR.out).off hk
  have HST9:Hid (cZ (wZ vb bb lb db mb tb ev fv) W1.drew sb db mb tb V.s):=hid (H1.out.below DR.out).store
  have HX9:Hid (cU W1.drew (.agg #[.int .u64 n,.int .u64 xt,.slice am nm cm,.slice ad nd cd]) ⟨(n:Int),xt,xms,xd⟩):=hid ((HXK.out w (Kept.refl _ _)).below BW.out)
  have HXK9:Hid (∀ w',Kept W1.drew w' (bA db mb tb) -> cU w' (.agg #[.int .u64 n,.int .u64 xt,.slice am nm cm,.slice ad nd cd]) ⟨(n:Int),xt,xms,xd⟩):=hid fun w' hk=>HXK.out w' ((Kept.aN BW.out (S:=iT ⟨vb,bb,sb,lb,db,mb,tb⟩ ev fv) fun k h1 h2=>by omega).trans (hk.mono fun _ _ e=>.inr (.inr (.inr (.inr (.inl e))))))
  go_wp2_with fail
  refine aL [0,1,3,7,15,0,63,127] 0 (fun w'=>Below W1.heap.size W1 w') (by kernel_rfl) ?_
  refine aB [0,1,2,3,4,5] (by kernel_rfl) (L:=bm 8 63) (by kernel_rfl) (f':=2) rfl (fun _ _ _ _ h=>h) (fun w o h=>ST.alloc h o) (.inr (by first | exact Below.refl _ _ | exact (Below.refl _ _).drew)) ?_
  simp only [sF,sL]
  iterate 6 (first | (refine aO _ (by rfl) (fun w' hs=>by have c1:=(H1.out.below hs).c1;obtain ⟨x0,x1,x2,x3,_,_,_,_⟩:=X1.out.below hs;go_simp;try with_reducible rfl) rfl ?_;simp only [Act.put,sA]) | (refine aD _ (by rfl) (fun w'=>by go_simp;try with_reducible rfl) ?_;simp only [Act.put,sA]))
  refine aF ?_
  refine aI 6 (by kernel_rfl) (L:=bm 8 127) (by kernel_rfl) ?_
  simp only [sL]
  go_wp2_with fail;refine (yN (wZ vb bb lb db mb tb ev fv) sb db mb tb V.s ⟨(n:Int),xt,xms,xd⟩ D _ W1.drew HQ9.out HST9.out HX9.out HXK9.out HD.out HG.out HS4.out).mono ?_;rintro e w2 ⟨rfl,hd2,hs2,hk2⟩;rw [HE9.out] at hs2 ⊢;rw [if_pos rfl] at hs2;have H2:Hid (aX w2 ⟨vb,bb,sb,lb,db,mb,tb⟩ ev fv el (cJ D V.s ⟨(n:Int),xt,xms,xd⟩).1 { V with s:=⟨(n:Int),xt,xms,xd⟩ }):=hid ((H1.out.below DR.out).aCd hd2 hs2 hk2 HOK9.out);have VS:Hid (cI ⟨vb,bb,sb,lb,db,mb,tb⟩ w ev fv w2 ev fv):=hid ((cI.below (B1.out.trans (DR.out.mono B1.out.size))).trans (cI.aCd hk2));have X2:=hid ((X1.out.below DR.out).kept hk2 HXN.out);clear hd2 hs2 hk2;dsimp only;go_wp2_with fail
  refine aE nofun ?_
  refine aB [7] (by kernel_rfl) (L:=bm 8 255) (by kernel_rfl) (f':=0) rfl (fun _ _ _ _ h=>h) (fun w o h=>ST.alloc h o) (.inl (by kernel_rfl)) ?_
  simp only [sF,sL]
  iterate 1 (refine aD _ (by rfl) (fun w'=>by go_simp;try with_reducible rfl) ?_;simp only [Act.put,sA])
  refine aF ?_
  refine aR (by kernel_rfl) ?_
  have ST2:=aM.from w2
  have c2:=H2.out.c2
  dsimp only at c2
  go_wp2_with fail
  clear c2
  refine aL [0,1,3,7,15,0,32,127,255,511,511,0,3071,8191] 0 (fun w'=>Below w2.heap.size w2 w') (by kernel_rfl) ?_
  refine aB [0,1,2,3,4,5,6] (by kernel_rfl) (L:=bm 14 127) (by kernel_rfl) (f':=7) rfl (fun _ _ _ _ h=>h) (fun w o h=>ST2.alloc h o) (.inr (by first | exact Below.refl _ _ | exact (Below.refl _ _).drew)) ?_
  simp only [sF,sL]
  iterate 7 (first | (refine aO _ (by rfl) (fun w' hs=>by have c2:=(H2.out.below hs).c2;obtain ⟨x0,x1,x2,x3,_,_,_,_⟩:=X2.out.below hs;go_simp;try with_reducible rfl) rfl ?_;simp only [Act.put,sA]) | (refine aD _ (by rfl) (fun w'=>by go_simp;try with_reducible rfl) ?_;simp only [Act.put,sA]))
  refine aF ?_
  refine aAB 7 11 (by kernel_rfl) (Lj:=bm 14 255) (Lk:=bm 14 2175) (by kernel_rfl) (by kernel_rfl) ?_ ?_
  . simp only [sL]
    go_wp2_with fail
    refine (aEV (H2.out.below ((Below.refl w2.heap.size w2).drew)).log HLL.out HLN.out n HYT.out HYK.out HYS.out).mono ?_
    rintro e w3 ⟨a,en,ec,rfl,hb3⟩
    have B3:Hid (Below w2.heap.size w2 w3):=hid (((Below.refl w2.heap.size w2).drew).trans (hb3.mono ((Below.refl w2.heap.size w2).drew).size))
    clear hb3
    go_wp2_with fail
    refine aE nofun ?_
    refine aB [8,9,10] (by kernel_rfl) (L:=bm 14 2047) (by kernel_rfl) (f':=3) rfl (fun _ _ _ _ h=>h) (fun w o h=>ST2.alloc h o) (.inl (by kernel_rfl)) ?_
    simp only [sF,sL]
    iterate 3 (refine aD _ (by rfl) (fun w'=>by go_simp;try with_reducible rfl) ?_;simp only [Act.put,sA])
    refine aF ?_
    refine aI 11 (by kernel_rfl) (L:=bm 14 4095) (by kernel_rfl) ?_
    simp only [sL]
    go_wp2_with fail
    have E4:Hid (EC (w3.alloc (.cells #[.int .u64 0,.int .i64 0,.slice none 0 0] 38)) w3.heap.size 0 0 (.slice none 0 0)):=hid (EC.box w3)
    have LB:Hid (w2.heap.size <= w3.heap.size):=hid B3.out.size
    have B4:Hid (Below w2.heap.size w2 (w3.alloc (.cells #[.int .u64 0,.int .i64 0,.slice none 0 0] 38))):=hid (B3.out.alloc B3.out.size _)
    generalize World.alloc w3 _ = W4 at *
    generalize hEB:w3.heap.size = eb at *
    refine aE nofun ?_
    refine aI 12 (by kernel_rfl) (L:=bm 14 8191) (by kernel_rfl) ?_
    simp only [sL]
    obtain ⟨q0,q1,q2,g0,g1,g2⟩:=E4.out
    go_wp2_with fail
    have E5:Hid (EC _ _ yt yk (.slice a en ec)):=hid ((E4.out.set yt yk).put (.slice a en ec))
    have B5:Hid (Below w2.heap.size w2 _):=hid (B4.out.trans ((EC.oO W4 eb (.int .u64 yt) (.int .i64 yk) (.slice a en ec)).below B4.out.size fun k e=>by have:=LB.out;omega))
    generalize World.setCell _ _ _ = W5 at *
    clear q0 q1 q2 g0 g1 g2
    refine aE nofun ?_
    refine aB [13] (by kernel_rfl) (L:=bm 14 16383) (by kernel_rfl) (f':=0) rfl (fun _ _ _ _ h=>h) (fun w o h=>ST2.alloc h o) (.inl (by kernel_rfl)) ?_
    simp only [sF,sL]
    iterate 1 (refine aD _ (by rfl) (fun w'=>by go_simp;try with_reducible rfl) ?_;simp only [Act.put,sA])
    refine aF ?_
    refine aR (by kernel_rfl) ?_
    have H5:=hid (H2.out.below B5.out)
    have VS5:Hid (cI ⟨vb,bb,sb,lb,db,mb,tb⟩ w ev fv W5 ev fv):=hid (VS.out.trans (cI.below B5.out))
    have c2:=H5.out.c2
    obtain ⟨x0,x1,x2,x3,_,_,_,_⟩:=X2.out.below B5.out
    obtain ⟨q0,_,_,_,_,_⟩:=E5.out
    dsimp only at c2
    clear E4 LB B4 ST ST2
    cases okk with
    | false =>
      have HR:=hid (HRR.out rfl)
      go_wp2_with fail
      refine (qA H5.out.log HC.out.eN HOKL.out HSR.out HFS.out n).mono ?_
      rintro e w6 ⟨rfl,ev6,fv6,el6,hl6,hs6⟩
      have H6:=hid (H5.out.kK hl6 hs6)
      have VS6:=hid (VS5.out.trans (cI.kL (b:=⟨vb,bb,sb,lb,db,mb,tb⟩) hs6))
      clear hl6 hs6 c2 x0 x1 x2 x3 q0
      dsimp only
      go_wp2_with fail
      refine (gQ H6.out _).mono ?_
      rintro e w7 ⟨rfl,hv7,hk7⟩
      have FIN:=hid (aX.aDl HB.out VS6.out hv7 hk7)
      clear hv7 hk7
      dsimp only
      go_wp2_with fail
      go_ret
      rw [HR.out]
      exact FIN.out
    | true =>
      cases hx:(yt == xt) with
      | false =>
        have HR:=hid (HRR.out hx)
        go_wp2_with fail
        refine (qA H5.out.log HC.out.eN HOKL.out HSR.out HFS.out n).mono ?_
        rintro e w6 ⟨rfl,ev6,fv6,el6,hl6,hs6⟩
        have H6:=hid (H5.out.kK hl6 hs6)
        have VS6:=hid (VS5.out.trans (cI.kL (b:=⟨vb,bb,sb,lb,db,mb,tb⟩) hs6))
        clear hl6 hs6 c2 x0 x1 x2 x3 q0
        dsimp only
        go_wp2_with fail
        refine (gQ H6.out _).mono ?_
        rintro e w7 ⟨rfl,hv7,hk7⟩
        have FIN:=hid (aX.aDl HB.out VS6.out hv7 hk7)
        clear hv7 hk7
        dsimp only
        go_wp2_with fail
        go_ret
        rw [HR.out]
        exact FIN.out
      | true =>
        have HR:=hid (HRD.out hx)
        go_wp2_with fail
        refine (aI7 H5.out.log HC.out HSD.out n HN9.out).mono ?_
        rintro e w6 ⟨rfl,ev6,fv6,el6,hl6,hs6⟩
        have H6:=hid (H5.out.kK hl6 hs6)
        have VS6:=hid (VS5.out.trans (cI.kL (b:=⟨vb,bb,sb,lb,db,mb,tb⟩) hs6))
        clear hl6 hs6 c2 x0 x1 x2 x3 q0
        dsimp only
        go_wp2_with fail
        refine (gQ H6.out _).mono ?_
        rintro e w7 ⟨rfl,hv7,hk7⟩
        have FIN:=hid (aX.aDl HB.out VS6.out hv7 hk7)
        clear hv7 hk7
        dsimp only
        go_wp2_with fail
        go_ret
        rw [HR.out]
        exact FIN.out
  . simp only [sL]
    go_wp2_with fail
    have E3:Hid (EC (w2.alloc (.cells #[.int .u64 0,.int .i64 0,.slice none 0 0] 38)).drew w2.heap.size 0 0 (.slice none 0 0)):=hid ((EC.box w2).below (Below.refl _ _).drew)
    have B4:Hid (Below w2.heap.size w2 (w2.alloc (.cells #[.int .u64 0,.int .i64 0,.slice none 0 0] 38)).drew):=hid ((Below.refl w2.heap.size w2).alloc (Nat.le_refl _) _).drew
    generalize World.alloc w2 _ = W3 at *
    refine aE nofun ?_
    refine aI 7 (by kernel_rfl) (L:=bm 14 2303) (by kernel_rfl) ?_
    simp only [sL]
    go_wp2_with fail
    refine (aEV (H2.out.below B4.out).log HLL.out HLN.out n HYT.out HYK.out HYS.out).mono ?_
    rintro e w3 ⟨a,en,ec,rfl,hb3⟩
    have B3:Hid (Below w2.heap.size w2 w3):=hid (B4.out.trans (hb3.mono B4.out.size))
    have E4:=hid (E3.out.below hb3)
    have LB:=hid (Nat.le_refl w2.heap.size)
    clear hb3
    go_wp2_with fail
    refine aE nofun ?_
    refine aB [8,9,10] (by kernel_rfl) (L:=bm 14 4095) (by kernel_rfl) (f':=2) rfl (fun _ _ _ _ h=>h) (fun w o h=>ST2.alloc h o) (.inl (by kernel_rfl)) ?_
    simp only [sF,sL]
    iterate 3 (refine aD _ (by rfl) (fun w'=>by go_simp;try with_reducible rfl) ?_;simp only [Act.put,sA])
    refine aF ?_
    refine aI 12 (by kernel_rfl) (L:=bm 14 8191) (by kernel_rfl) ?_
    simp only [sL]
    obtain ⟨q0,q1,q2,g0,g1,g2⟩:=E4.out
    go_wp2_with fail
    have E5:Hid (EC _ _ yt yk (.slice a en ec)):=hid ((E4.out.set yt yk).put (.slice a en ec))
    have B5:Hid (Below w2.heap.size w2 _):=hid (B3.out.trans ((EC.oO w3 w2.heap.size (.int .u64 yt) (.int .i64 yk) (.slice a en ec)).below B3.out.size fun k e=>by omega))
    generalize World.setCell _ _ _ = W5 at *
    clear q0 q1 q2 g0 g1 g2
    refine aE nofun ?_
    refine aB [13] (by kernel_rfl) (L:=bm 14 16383) (by kernel_rfl) (f':=0) rfl (fun _ _ _ _ h=>h) (fun w o h=>ST2.alloc h o) (.inl (by kernel_rfl)) ?_
    simp only [sF,sL]
    iterate 1 (refine aD _ (by rfl) (fun w'=>by go_simp;try with_reducible rfl) ?_;simp only [Act.put,sA])
    refine aF ?_
    refine aR (by kernel_rfl) ?_
    have H5:=hid (H2.out.below B5.out)
    have VS5:Hid (cI ⟨vb,bb,sb,lb,db,mb,tb⟩ w ev fv W5 ev fv):=hid (VS.out.trans (cI.below B5.out))
    have c2:=H5.out.c2
    obtain ⟨x0,x1,x2,x3,_,_,_,_⟩:=X2.out.below B5.out
    obtain ⟨q0,_,_,_,_,_⟩:=E5.out
    dsimp only at c2
    clear E4 LB B4 ST ST2
    cases okk with
    | false =>
      have HR:=hid (HRR.out rfl)
      go_wp2_with fail
      refine (qA H5.out.log HC.out.eN HOKL.out HSR.out HFS.out n).mono ?_
      rintro e w6 ⟨rfl,ev6,fv6,el6,hl6,hs6⟩
      have H6:=hid (H5.out.kK hl6 hs6)
      have VS6:=hid (VS5.out.trans (cI.kL (b:=⟨vb,bb,sb,lb,db,mb,tb⟩) hs6))
      clear hl6 hs6 c2 x0 x1 x2 x3 q0
      dsimp only
      go_wp2_with fail
      refine (gQ H6.out _).mono ?_
      rintro e w7 ⟨rfl,hv7,hk7⟩
      have FIN:=hid (aX.aDl HB.out VS6.out hv7 hk7)
      clear hv7 hk7
      dsimp only
      go_wp2_with fail
      go_ret
      rw [HR.out]
      exact FIN.out
    | true =>
      cases hx:(yt == xt) with
      | false =>
        have HR:=hid (HRR.out hx)
        go_wp2_with fail
        refine (qA H5.out.log HC.out.eN HOKL.out HSR.out HFS.out n).mono ?_
        rintro e w6 ⟨rfl,ev6,fv6,el6,hl6,hs6⟩
        have H6:=hid (H5.out.kK hl6 hs6)
        have VS6:=hid (VS5.out.trans (cI.kL (b:=⟨vb,bb,sb,lb,db,mb,tb⟩) hs6))
        clear hl6 hs6 c2 x0 x1 x2 x3 q0
        dsimp only
        go_wp2_with fail
        refine (gQ H6.out _).mono ?_
        rintro e w7 ⟨rfl,hv7,hk7⟩
        have FIN:=hid (aX.aDl HB.out VS6.out hv7 hk7)
        clear hv7 hk7
        dsimp only
        go_wp2_with fail
        go_ret
        rw [HR.out]
        exact FIN.out
      | true =>
        have HR:=hid (HRD.out hx)
        go_wp2_with fail
        refine (aI7 H5.out.log HC.out HSD.out n HN9.out).mono ?_
        rintro e w6 ⟨rfl,ev6,fv6,el6,hl6,hs6⟩
        have H6:=hid (H5.out.kK hl6 hs6)
        have VS6:=hid (VS5.out.trans (cI.kL (b:=⟨vb,bb,sb,lb,db,mb,tb⟩) hs6))
        clear hl6 hs6 c2 x0 x1 x2 x3 q0
        dsimp only
        go_wp2_with fail
        refine (gQ H6.out _).mono ?_
        rintro e w7 ⟨rfl,hv7,hk7⟩
        have FIN:=hid (aX.aDl HB.out VS6.out hv7 hk7)
        clear hv7 hk7
        dsimp only
        go_wp2_with fail
        go_ret
        rw [HR.out]
        exact FIN.out

def tI (V:cC) (n:Nat):Int × Bool:=if V.s.i = n then (V.s.t,true) else (((atW V.L n).getD ⟨0,0,[]⟩).t,(atW V.L n).isSome)
set_option maxRecDepth 20000 in
theorem aCQ {w:World} {b:VB} {ev fv:Value} {el:bF} {D:aA} {V:cC} (h:aX w b ev fv el D V) (hl:V.L.last <= H59) (hn:V.L.es.length <= 2147483648) (n:Nat) :
    Calls Tryz.prog 48 #[.pointer (some ⟨b.vb,0,none⟩),.int .u64 n] w fun e w'=>e = .returned (.tuple #[.int .u64 (tI V n).1,.bool (tI V n).2]) /\ Below w.heap.size w w':=by
  have HH:=hid h
  have HLL:=hid hl
  have HN:=hid hn
  obtain ⟨m,hm⟩:∃ m:Int,(if V.br then (50:Int) else 0) = m:=⟨_,rfl⟩
  have h1:(m == 1) = false:=by subst hm;cases V.br <;> rfl
  have HM:=hid hm
  by_cases hc:V.s.i = n
  . have HT:Hid (tI V n = (V.s.t,true)):=hid (by unfold tI;rw [if_pos hc])
    have hx:(V.s.i == (n:Int)) = true:=beq_iff_eq.2 hc
    clear h hl hn hc hm
    obtain ⟨vb,bb,sb,lb,db,mb,tb⟩:=b
    simp only
    go_enter Tryz.func48,Tryz.ntmps48
    go_wp2_with fail
    refine (aBt HH.out).mono ?_
    rintro e w1 ⟨rfl,rfl⟩
    rw [HM.out]
    dsimp only
    go_wp2_with fail
    refine (wS HH.out).mono ?_
    rintro e w1 ⟨i,t,mv,dv,rfl,hs,hb1⟩
    obtain ⟨rfl,rfl,⟨am,nm,cm,rfl⟩,⟨ad,nd,cd,rfl⟩⟩:=hs.uS
    have B1:=hid hb1
    clear hb1 hs
    dsimp only
    go_wp2_with fail
    refine bodyPost_ret (v:=.tuple #[.int .u64 V.s.t,.bool true]) (by simp [results,Tryz.results48,go_sem]) rfl ?_
    rw [HT.out]
    exact ⟨rfl,B1.out.alloc B1.out.size _⟩
  . have HT:Hid (tI V n = (((atW V.L n).getD ⟨0,0,[]⟩).t,(atW V.L n).isSome)):=hid (by unfold tI;rw [if_neg hc])
    have hx:(V.s.i == (n:Int)) = false:=beq_eq_false_iff_ne.2 hc
    clear h hl hn hc hm
    obtain ⟨vb,bb,sb,lb,db,mb,tb⟩:=b
    simp only
    go_enter Tryz.func48,Tryz.ntmps48
    go_wp2_with fail
    refine (aBt HH.out).mono ?_
    rintro e w1 ⟨rfl,rfl⟩
    rw [HM.out]
    dsimp only
    go_wp2_with fail
    refine (wS HH.out).mono ?_
    rintro e w1 ⟨i,t,mv,dv,rfl,hs,hb1⟩
    obtain ⟨rfl,rfl,⟨am,nm,cm,rfl⟩,⟨ad,nd,cd,rfl⟩⟩:=hs.uS
    have B1:=hid hb1
    clear hb1 hs
    dsimp only
    go_wp2_with fail
    generalize hW2:World.alloc w1 _ = W2
    have B2:Hid (Below w.heap.size w W2):=hid (by subst hW2;exact B1.out.alloc B1.out.size _)
    clear hW2
    refine (aJE (HH.out.below B2.out) HLL.out HN.out n).mono ?_
    rintro e w3 ⟨a,en,ec,rfl,_,_,hb3⟩
    have B3:Hid (Below w.heap.size w w3):=hid (B2.out.trans (hb3.mono B2.out.size))
    clear hb3
    dsimp only
    go_wp2_with fail
    refine bodyPost_ret (v:=.tuple #[.int .u64 ((atW V.L n).getD ⟨0,0,[]⟩).t,.bool (atW V.L n).isSome]) (by simp [results,Tryz.results48,go_sem]) rfl ?_
    rw [HT.out]
    exact ⟨rfl,B3.out.alloc B3.out.size _⟩
end Go.Proofs.YtjdglpcnkiioeaaGreat
