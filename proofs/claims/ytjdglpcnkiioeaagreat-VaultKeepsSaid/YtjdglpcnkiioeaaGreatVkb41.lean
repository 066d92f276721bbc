/- Several texts in one: Vty, Vtz, Vtl, Vtv, Vua for vltkeeps_law_holds. No conditions but those stated. -/
import Derived.Test.YtjdglpcnkiioeaaGreatVkb40
import Derived.Deep.QuietTactic
import Derived.BigQuiet
import Derived.Test.YtjdglpcnkiioeaaGreatVkb38
import Derived.Test.YtjdglpcnkiioeaaGreatVkb21
import Derived.Test.YtjdglpcnkiioeaaGreatVkb30
import Derived.Test.YtjdglpcnkiioeaaGreatVkb32
set_option maxHeartbeats 16000000
namespace Go.Proofs.YtjdglpcnkiioeaaGreat
open Go.RowKit Go.Maps Go.Proofs.Own Go.Shelf

def xU (all:List bR) (base:Int) (x:aZ):List bR :=
 if (x.i - base).toNat <= all.length /\ ((all[(x.i - base).toNat - 1]?).map bR.t) = some x.t then all.drop (x.i - base).toNat else []
def sT (V:cB) (k:Int) (ms:List bR):List bR:=if k = 0 then bU V ++ ms else bU V
def gR (V:cB) (k:Int) (a:Nat):Nat:=if k = 1 /\ V.s.i < a then min (a - V.s.i.toNat - 1) (bU V).length else (bU V).length
structure xM (V:cB) (k:Int) (a:Nat) (ms:List bR) (st sv:Int) (x:aZ) (D':aA) (V':cB):Prop where
 inv:gO D' V'
 st:(V'.t = V.t /\ V'.v = V.v) \/ (k = 2 /\ V'.t = st /\ V'.v = sv)
 es:(V'.s = V.s /\ gR V k a <= (bU V').length /\ (bU V').length <= (sT V k ms).length /\ bU V' = (sT V k ms).take (bU V').length) \/
  (k = 3 /\ V'.s = x /\ V.s.i < x.i /\ bU V' = xU (bU V) V.s.i x)
theorem qH {V:cB} {D:aA} (h:gO D V):(bU V).length = V.L.last - V.s.i.toNat /\ V.L.b <= V.s.i.toNat /\ V.s.i.toNat <= V.L.last /\ ((V.s.i.toNat:Nat):Int) = V.s.i:=by
 have h0:=h.sf.range.1
 have h1:=h.lo
 have h2:=h.hi
 unfold bU
 rw [List.length_drop]
 unfold aM.last at *
 omega
theorem aHA {l m:List bR} {n:Nat} (h:n <= l.length):(l ++ m).drop n = l.drop n ++ m:=List.drop_append_of_le_length h
theorem qP {D D':aA} {V V':cB} {t' v':Int} {L:aM} {k:Int} {a:Nat} {ms:List bR} {st sv:Int} {x:aZ} (h:gO D V) {D1:aA} (ho:sQ D1 V.t V.v t' v' V.s L D' V') (hst:(t' = V.t /\ v' = V.v) \/ (k = 2 /\ t' = st /\ v' = sv))
  (hb:L.b = V.L.b) (hsf:L.safe = V.L.es.length) (hes:L.es = V.L.es \/ (k = 0 /\ L.es = V.L.es ++ ms)):xM V k a ms st sv x D' V':=by
 obtain ⟨e1,e2,e3,e4⟩:=qH h
 refine ⟨ho.inv,?_,.inl ⟨ho.sn,?_⟩⟩
 ·rcases ho.st with q | ⟨q1,q2⟩
  ·exact .inl q
  ·rcases hst with ⟨r1,r2⟩ | ⟨r0,r1,r2⟩
   ·exact .inl ⟨q1.trans r1,q2.trans r2⟩
   ·exact .inr ⟨r0,q1.trans r1,q2.trans r2⟩
 ·obtain ⟨j,j1,j2,hj⟩:=ho.es
  rw [hb] at hj
  have hle:V.L.es.length <= j:=by omega
  have hL:∃ w,L.es = V.L.es ++ w /\ (w = [] \/ (k = 0 /\ w = ms)):=by
   rcases hes with e | ⟨e,e5⟩
   ·exact ⟨[],by rw [e,List.append_nil],.inl rfl⟩
   ·exact ⟨ms,e5,.inr ⟨e,rfl⟩⟩
  obtain ⟨w,hw,hwk⟩:=hL
  have htk:L.es.take j = V.L.es ++ w.take (j - V.L.es.length):=by
   rw [hw,List.take_append,List.take_of_length_le hle]
  have hidx:V.L.b < V.s.i.toNat -> (L.es.take j)[V.s.i.toNat - V.L.b - 1]? = V.L.es[V.s.i.toNat - V.L.b - 1]?:=fun q=>by
   rw [htk]
   exact List.getElem?_append_left (by unfold aM.last at e3;omega)
  have hgot:bU V' = bU V ++ w.take (j - V.L.es.length):=by
   rcases hj with ⟨q,_⟩ | ⟨_,y,q1,q2,q3⟩
   ·rw [q,htk]
    exact aHA (by unfold aM.last at e3;omega)
   ·rw [hidx q1] at q2
    exact absurd (h.tm y (by rw [xX q1];exact q2)) q3
  have hall:∃ u,sT V k ms = bU V ++ u /\ (w = [] \/ w = u):=by
   unfold sT
   by_cases hk:k = 0
   ·rw [if_pos hk]
    exact ⟨ms,rfl,hwk.imp id fun q=>q.2⟩
   ·rw [if_neg hk]
    exact ⟨[],(List.append_nil _).symm,.inl (hwk.resolve_right fun q=>hk q.1)⟩
  obtain ⟨u,hu,hwu⟩:=hall
  have hl2:gR V k a <= (bU V).length:=by
   unfold gR
   split
   ·exact Nat.min_le_right _ _
   ·exact Nat.le_refl _
  rw [hgot,hu,List.length_append,List.length_append]
  have hlw:(w.take (j - V.L.es.length)).length <= u.length:=by
   rcases hwu with rfl | rfl
   ·simp
   ·rw [List.length_take];omega
  refine ⟨by omega,by omega,?_⟩
  rw [List.take_length_add_append]
  congr 1
  rcases hwu with rfl | rfl
  ·simp
  ·rw [List.length_take]
   by_cases hc:j - V.L.es.length <= w.length
   ·rw [Nat.min_eq_left hc]
   ·rw [Nat.min_eq_right (by omega),List.take_length,List.take_of_length_le (by omega)]
theorem aHR {D D':aA} {V V':cB} {t' v':Int} {L:aM} {a:Nat} {ms:List bR} {st sv:Int} {x:aZ} (h:gO D V) {D1:aA} (ho:sQ D1 V.t V.v t' v' V.s L D' V') (hst:t' = V.t /\ v' = V.v)
  (hb:L.b = V.L.b) (hsf:L.safe = L.es.length) (hes:L.es = V.L.es.take L.es.length) (hm:min (a - V.L.b - 1) V.L.es.length <= L.es.length) (hle:L.es.length <= V.L.es.length) (ha:V.s.i < a):xM V 1 a ms st sv x D' V':=by
 obtain ⟨e1,e2,e3,e4⟩:=qH h
 refine ⟨ho.inv,?_,.inl ⟨ho.sn,?_⟩⟩
 ·rcases ho.st with q | ⟨q1,q2⟩
  ·exact .inl q
  ·exact .inl ⟨q1.trans hst.1,q2.trans hst.2⟩
 ·obtain ⟨j,j1,j2,hj⟩:=ho.es
  rw [hb,show j = L.es.length by omega,List.take_length] at hj
  have hsi:V.s.i.toNat - V.L.b <= L.es.length:=by unfold aM.last at e3;omega
  have hgot:bU V' = L.es.drop (V.s.i.toNat - V.L.b):=by
   rcases hj with ⟨q,_⟩ | ⟨_,y,q1,q2,q3⟩
   ·exact q
   ·rw [hes] at q2
    exact absurd (h.tm y (by rw [xX q1];exact tW q2)) q3
  have hlen:(bU V').length = L.es.length - (V.s.i.toNat - V.L.b):=by rw [hgot,List.length_drop]
  have hal:sT V 1 ms = bU V:=by unfold sT;rw [if_neg (by decide)]
  rw [hal,hlen]
  refine ⟨?_,?_,?_⟩
  ·unfold gR
   rw [if_pos ⟨rfl,ha⟩,e1]
   unfold aM.last at *
   omega
  ·rw [e1]
   unfold aM.last at *
   omega
  ·rw [hgot]
   conv=>lhs;rw [hes]
   unfold bU
   rw [List.drop_take]
theorem aGg {D D':aA} {V V':cB} {t' v':Int} {L:aM} {a:Nat} {ms:List bR} {st sv:Int} {x:aZ} (h:gO D V) {D1:aA} (ho:sQ D1 V.t V.v t' v' x L D' V') (hst:t' = V.t /\ v' = V.v) (hlt:V.s.i < x.i)
  (hd:(∃ y,atW V.L x.i.toNat = some y /\ y.t = x.t /\ Suf V.L L x.i.toNat /\ L.safe = L.es.length) \/ ((∀ y,atW V.L x.i.toNat = some y -> y.t ≠ x.t) /\ Pre V.L L)):xM V 3 a ms st sv x D' V':=by
 obtain ⟨e1,e2,e3,e4⟩:=qH h
 refine ⟨ho.inv,?_,.inr ⟨rfl,ho.sn,hlt,?_⟩⟩
 ·rcases ho.st with q | ⟨q1,q2⟩
  ·exact .inl q
  ·exact .inl ⟨q1.trans hst.1,q2.trans hst.2⟩
 ·have hn:(x.i - V.s.i).toNat = x.i.toNat - V.s.i.toNat:=by omega
  have hbx:V.L.b < x.i.toNat:=by omega
  have hidx:(bU V)[(x.i - V.s.i).toNat - 1]? = V.L.es[x.i.toNat - V.L.b - 1]?:=by
   unfold bU
   rw [List.getElem?_drop,hn]
   congr 1
   omega
  obtain ⟨j,j1,j2,hj⟩:=ho.es
  unfold xU
  rw [hidx,hn]
  rcases hd with ⟨y,y1,y2,y3,y4⟩ | ⟨y1,y2⟩
  ·have hy:V.L.es[x.i.toNat - V.L.b - 1]? = some y:=(nQ y1).2
   have hlast:=aJI y1
   have hlo:=y3.lo
   have hhi:=y3.hi (by omega)
   rw [if_pos ⟨by rw [e1];omega,by rw [hy];exact congrArg some y2⟩]
   rw [show j = L.es.length by omega,List.take_length,y3.es] at hj
   have hgot:bU V' = (V.L.es.drop (L.b - V.L.b)).drop (x.i.toNat - L.b):=by
    rcases hj with ⟨q,_⟩ | ⟨_,z,q1,q2,q3⟩
    ·exact q
    ·rw [List.getElem?_drop,show L.b - V.L.b + (x.i.toNat - L.b - 1) = x.i.toNat - V.L.b - 1 by omega,hy] at q2
     exact absurd (Option.some.inj q2 ▸ y2) q3
   rw [hgot]
   unfold bU
   rw [List.drop_drop,List.drop_drop]
   congr 1
   omega
  ·have hno:¬ ((x.i.toNat - V.s.i.toNat) <= (bU V).length /\ (V.L.es[x.i.toNat - V.L.b - 1]?.map bR.t) = some x.t):=fun ⟨_,q⟩=>by
    cases hy:V.L.es[x.i.toNat - V.L.b - 1]? with
    | none=>rw [hy] at q;cases q
    | some y =>
     rw [hy] at q
     exact y1 y (by rw [xX hbx];exact hy) (Option.some.inj q)
   rw [if_neg hno]
   rw [y2.b] at hj
   obtain ⟨p,hp⟩:=y2.es
   rcases hj with ⟨q,q2⟩ | ⟨q,_⟩
   ·rw [q]
    refine List.drop_eq_nil_of_le ?_
    refine Nat.le_of_not_lt fun hgt=>?_
    obtain ⟨y,hy⟩:∃ y,(L.es.take j)[x.i.toNat - V.L.b - 1]? = some y:=⟨_,List.getElem?_eq_getElem (by omega)⟩
    have hy2:V.L.es[x.i.toNat - V.L.b - 1]? = some y:=by
     have:=tW hy
     rw [hp] at this
     exact tW this
    exact y1 y (by rw [xX hbx];exact hy2) (q2 y hbx hy)
   ·exact q
theorem aCB {D:aA} {V:cB} (h:gO D V):VCr D V.t V.v V.t V.v V.s V.L /\ ∀ D' V',sQ D V.t V.v V.t V.v V.s V.L D' V' -> xM V (-1) 0 [] 0 0 iO D' V' :=
 ⟨h.cr,fun _ _ ho=>qP h ho (.inl ⟨rfl,rfl⟩) rfl h.saf (.inl rfl)⟩
theorem aCA {D:aA} {V:cB} (h:gO D V) (hs:D.steps + 300 <= 1000000000) {k:Int} (hk:0 <= k /\ k <= 3) (a:Nat) (ms:List bR) {st:Int} (ht:0 <= st) (sv:Int) (x:aZ) (hd:(opV k a ms st sv x D V).1.down = true) :
  ∃ t' v' s L,VCr (opV k a ms st sv x D V).1 V.t V.v t' v' s L /\ ∀ D' V',sQ (opV k a ms st sv x D V).1 V.t V.v t' v' s L D' V' -> xM V k a ms st sv x D' V':=by
 unfold opV at hd ⊢
 by_cases h1:k = 1
 ·subst h1
  rw [if_pos rfl] at hd ⊢
  obtain ⟨L,q1,q2,q3,q4,q5,q6,q7⟩:=(yB h hs a).2.1 hd
  exact ⟨_,_,_,L,q1,fun D' V' ho=>aHR h ho ⟨rfl,rfl⟩ q2 q3 q4 q5 q6 q7⟩
 ·rw [if_neg h1] at hd ⊢
  by_cases h2:k = 2
  ·subst h2
   rw [if_pos rfl] at hd ⊢
   exact ⟨_,_,_,V.L,(uO h hs st sv ht).2.1 hd,fun D' V' ho=>qP h ho (.inr ⟨rfl,rfl,rfl⟩) rfl h.saf (.inl rfl)⟩
  ·rw [if_neg h2] at hd ⊢
   by_cases h3:k = 3
   ·subst h3
    rw [if_pos rfl] at hd ⊢
    rcases (vC h hs x).2.1 hd with q | ⟨q1,_,L,q3,q4⟩
    ·exact ⟨_,_,_,V.L,q,fun D' V' ho=>qP h ho (.inl ⟨rfl,rfl⟩) rfl h.saf (.inl rfl)⟩
    ·exact ⟨_,_,_,L,q3,fun D' V' ho=>aGg h ho ⟨rfl,rfl⟩ q1 q4⟩
   ·rw [if_neg h3] at hd ⊢
    have h0:k = 0:=by omega
    obtain ⟨L,q1,q2,q3,q4⟩:=(pE h hs ms).2.1 hd
    exact ⟨_,_,_,L,q1,fun D' V' ho=>qP h ho (.inl ⟨rfl,rfl⟩) q2 q3 (q4.imp id fun q=>⟨h0,q⟩)⟩
end Go.Proofs.YtjdglpcnkiioeaaGreat
namespace Go.Proofs.YtjdglpcnkiioeaaGreat
open Go.Lib (hid)
open Go.RowKit Go.Maps Go.Proofs.Own Go.Shelf

theorem aBm (l:bE) (n:Nat):aL (l.drop n) = (aL l).drop n:=List.map_drop
def jJ (al:bE) (m:Nat) (xt:Int):bE:=if m <= al.length /\ ((al[m - 1]?).map (·.1.t)) = some xt then al.drop m else []
theorem aDA (al:bE) (base:Int) (x:aZ):(jJ al (x.i - base).toNat x.t).map (·.1) = xU (al.map (·.1)) base x:=by
 have e:((al.map (·.1))[(x.i - base).toNat - 1]?).map bR.t = (al[(x.i - base).toNat - 1]?).map (·.1.t):=by
  rw [List.getElem?_map,Option.map_map]
  rfl
 unfold jJ xU
 rw [List.length_map,e]
 split
 ·exact List.map_drop
 ·rfl
theorem aDB {al:bE} {m:Nat} {xt:Int} {p:bR × Value} (h:p ∈ jJ al m xt):p ∈ al:=by
 unfold jJ at h
 split at h
 ·exact List.mem_of_mem_drop h
 ·cases h
set_option maxRecDepth 20000 in
theorem aKi {w:World} {a:Option Addr} {n c:Nat} {al:bE} (hl:cS w 3 (.slice a n c) (aL al)) (hn:al.length = n) (h9:n <= 131072) (base i:Nat) (t:Int) (am ad:Option Addr) (nm cm nd cd:Nat) (hlt:base < i) (hi:(i:Int) < 576460752303423488) :
  Calls Tryz.prog 55 #[.slice a n c,.int .u64 base,.agg #[.int .u64 i,.int .u64 t,.slice am nm cm,.slice ad nd cd]] w fun e w'=>∃ a' n' c',e = .returned (.slice a' n' c') /\ cS w' 3 (.slice a' n' c') (aL (jJ al (i - base) t)) /\ Below w.heap.size w w':=by
 have HL:=hid hl
 have HN:=hid hn
 obtain ⟨m,hm⟩:∃ m,i - base = m:=⟨_,rfl⟩
 have HM:=hid hm
 rw [hm]
 obtain ⟨W1,hW1⟩:∃ W1:World,W1 = w.alloc (.cells #[.int .u64 i,.int .u64 t,.slice am nm cm,.slice ad nd cd] 75):=⟨_,rfl⟩
 have B1:Hid (Below w.heap.size w W1):=hid (by subst hW1;exact (Below.refl _ _).alloc (Nat.le_refl _) _)
 have x0:W1.cell? ⟨w.heap.size,0,none⟩ = some (.int .u64 i):=by subst hW1;go_cell
 have x1:W1.cell? ⟨w.heap.size,1,none⟩ = some (.int .u64 t):=by subst hW1;go_cell
 have L1:=hl.below B1.out
 have HL1:=hid L1
 have e1:IntKind.u64.wrap ((i:Int) - (base:Int)) = (m:Int):=by rw [wrap_u64];omega
 have e2:IntKind.u64.wrap (n:Int) = (n:Int):=by rw [wrap_u64];omega
 have e3:IntKind.u64.wrap ((m:Int) - 1) = ((m - 1:Nat):Int):=by rw [wrap_u64];omega
 have hm1:1 <= m:=by omega
 have HM1:=hid hm1
 by_cases hc:m <= n
 ·have z1:decide (n < m) = false:=decide_eq_false (by omega)
  obtain ⟨b,o,rfl,hbl,hcell⟩:=L1.at (j:=m - 1) (by rw [aK,hn];omega)
  obtain ⟨y,hy⟩:∃ y,al[m - 1]? = some y:=⟨_,List.getElem?_eq_getElem (by omega)⟩
  have hrow:(aL al)[m - 1]? = some [.int .u64 y.1.t,.int .i64 y.1.k,y.2]:=by
   unfold aL
   rw [List.getElem?_map,hy]
   rfl
  have hq:=(List.getElem?_eq_some_iff.1 hrow).2
  rw [hq] at hcell
  have c0:=hcell 0 _ rfl
  rw [Nat.add_zero] at c0
  obtain ⟨k1,hk1⟩:∃ k1:Nat,m - 1 = k1:=⟨_,rfl⟩
  rw [hk1] at e3 c0
  have hk0:(0:Int) <= (k1:Int):=by omega
  have hk2:(k1:Int) < (n:Int):=by omega
  obtain ⟨v2,hs2,_,hcut⟩:=cS.aHu (P:=Tryz.prog) (t:=23) Tryz.underlying23 (by kernel_rfl) .u64 L1 m (by rw [aK,hn];exact hc)
  obtain ⟨a2,c2,rfl,_⟩:=hs2.shape
  have HS2:=hid hs2
  have HBL:=hid hbl
  have HW1:Hid (w.heap.size < W1.heap.size):=hid (World.block_lt_of_cell? _ _ x0)
  have ST:=aP.from W1
  have HY:=hid hy
  have HC:=hid hc
  by_cases ht:y.1.t = t
  ·have z2:(y.1.t != t) = false:=by rw [ht];exact bne_self_eq_false _
   have HR:Hid (jJ al m t = al.drop m):=hid (by unfold jJ;rw [if_pos ⟨by rw [hn];exact hc,by rw [hy];exact congrArg some ht⟩])
   clear hl hn hm hm1 hc hcell hq hrow hy hs2 ht L1 hbl hk1 hlt hi h9
   go_enter Tryz.func55,Tryz.ntmps55
   go_wp2_with fail
   rw [<- hW1]
   go_wp2_with fail
   refine aN [0,0,2,6,15,31,63,63,191,511,1023,2047,63,4159,16383,32767] 0 (fun w'=>Below W1.heap.size W1 w') (by kernel_rfl) ?_
   refine aB [0,1,2,3,4,5,6,7,8,9,10,11,12,13,14,15] (by kernel_rfl) (L:=bm 16 65535) (by kernel_rfl) (f':=0) rfl (fun _ _ _ _ h=>h) (fun w o h=>ST.alloc h o) (.inr (by first | exact Below.refl _ _ | exact (Below.refl _ _).drew)) ?_
   simp only [sF,sL]
   iterate 16 (first | (refine aQ _ (by rfl) (fun w' hs=>by have y0:=Below.at hs x0 HW1.out;have y1:=Below.at hs x1 HW1.out;have yc:=Below.at hs c0 HBL.out;go_simp;try with_reducible rfl) rfl ?_;simp only [Act.put,sA]) | (refine aD _ (by rfl) (fun w'=>by go_simp;try with_reducible rfl) ?_;simp only [Act.put,sA]) | (refine dZ (by rfl) ?_;simp only [Act.put,sA]))
   refine aE ?_
   refine aT (by kernel_rfl) ?_
   go_wp2_with fail
   go_ret
   rw [HR.out,aBm]
   rw [<- hW1]
   have HS3:=HS2.out.below (Below.refl W1.heap.size W1).drew
   rw [List.length_drop] at HS3
   exact ⟨_,_,_,rfl,HS3,B1.out.drew⟩
  ·have z2:(y.1.t != t) = true:=bne_iff_ne.2 ht
   have HR:Hid (jJ al m t = []):=hid (by unfold jJ;rw [if_neg (fun q=>ht (by have:=q.2;rw [hy] at this;exact Option.some.inj this))])
   clear hl hn hm hm1 hc hcell hq hrow hy hs2 ht L1 hbl hk1 hcut hlt hi h9
   go_enter Tryz.func55,Tryz.ntmps55
   go_wp2_with fail
   rw [<- hW1]
   go_wp2_with fail
   refine aN [0,0,2,6,15,31,63,63,191,511,1023,2047,63,4159,16383,32767] 0 (fun w'=>Below W1.heap.size W1 w') (by kernel_rfl) ?_
   refine aB [0,1,2,3,4,5,6,7,8,9,10,11,12,13,14,15] (by kernel_rfl) (L:=bm 16 65535) (by kernel_rfl) (f':=0) rfl (fun _ _ _ _ h=>h) (fun w o h=>ST.alloc h o) (.inr (by first | exact Below.refl _ _ | exact (Below.refl _ _).drew)) ?_
   simp only [sF,sL]
   iterate 16 (first | (refine aQ _ (by rfl) (fun w' hs=>by have y0:=Below.at hs x0 HW1.out;have y1:=Below.at hs x1 HW1.out;have yc:=Below.at hs c0 HBL.out;go_simp;try with_reducible rfl) rfl ?_;simp only [Act.put,sA]) | (refine aD _ (by rfl) (fun w'=>by go_simp;try with_reducible rfl) ?_;simp only [Act.put,sA]) | (refine dZ (by rfl) ?_;simp only [Act.put,sA]))
   refine aE ?_
   refine aT (by kernel_rfl) ?_
   go_wp2_with fail
   go_ret
   rw [HR.out]
   exact ⟨_,_,_,rfl,cS.nil _ _,by first | exact B1.out | exact B1.out.drew | (rw [<- hW1];exact B1.out.drew)⟩
 ·have z1:decide (n < m) = true:=decide_eq_true (by omega)
  have HR:Hid (jJ al m t = []):=hid (by unfold jJ;rw [if_neg (fun q=>hc (by have:=q.1;omega))])
  clear hl hn hm hm1 hc L1 hlt hi h9
  go_enter Tryz.func55,Tryz.ntmps55
  go_wp2_with fail
  rw [<- hW1]
  go_wp2_with fail
  go_quiet (fail)
  go_wp2_with fail
  go_ret
  rw [HR.out]
  exact ⟨_,_,_,rfl,cS.nil _ _,by first | exact B1.out | exact B1.out.trans ((Below.drewN _ _).mono B1.out.size)⟩

def yV:bR × Value:=(xE,.slice none 0 0)
theorem cN.own {b:VB} {w w':World} {ev fv ev' fv':Value} (h:cN b w ev fv w' ev' fv') {k:Nat} (hk:gH b ev' fv' k):gH b ev fv k \/ w.heap.size <= k:=by
 rcases hk with hk | hk | hk | hk | hk | hk | hk
 ·exact .inl (.inl hk)
 ·exact .inl (.inr (.inl hk))
 ·exact .inl (.inr (.inr (.inl hk)))
 ·exact .inl (.inr (.inr (.inr (.inl hk))))
 ·exact .inl (.inr (.inr (.inr (.inr (.inl hk)))))
 ·exact (h.2.1 k hk).imp (fun e=>.inr (.inr (.inr (.inr (.inr (.inl e)))))) id
 ·exact (h.2.2 k hk).imp (fun e=>.inr (.inr (.inr (.inr (.inr (.inr e)))))) id
structure TX (w0 cw:World) (b:VB) (xb:Nat) (D:aA) (V:cB):Prop where
 vlt:∃ ev fv el,aV cw b ev fv el D V /\ (∀ k,gH b ev fv k -> w0.heap.size <= k) /\ ¬ gH b ev fv xb
 box:EC cw xb 1 1 (.slice none 0 0)
 bel:Below w0.heap.size w0 cw
theorem TX.below {w0 cw cw':World} {b:VB} {xb:Nat} {D:aA} {V:cB} (h:TX w0 cw b xb D V) (hb:Below cw.heap.size cw cw'):TX w0 cw' b xb D V:=by
 obtain ⟨ev,fv,el,h1,h2⟩:=h.vlt
 exact ⟨⟨ev,fv,el,h1.below hb,h2⟩,h.box.below hb,h.bel.trans (hb.mono h.bel.size)⟩
theorem TX.step {w0 cw cw':World} {b:VB} {xb:Nat} {D D':aA} {V V':cB} {ev fv ev' fv':Value} {el':bE} (h:TX w0 cw b xb D V) (hlog:(∀ k,gH b ev fv k -> w0.heap.size <= k) /\ ¬ gH b ev fv xb) (hv:aV cw' b ev' fv' el' D' V') (hs:cN b cw ev fv cw' ev' fv'):TX w0 cw' b xb D' V':=by
 refine ⟨⟨ev',fv',el',hv,fun k hk=>?_,fun hk=>?_⟩,h.box.kept hs.1 hlog.2,h.bel.trans (hs.1.below h.bel.size fun k hk=>hlog.1 k hk)⟩
 ·rcases hs.own hk with e | e
  ·exact hlog.1 k e
  ·have:=h.bel.size;omega
 ·rcases hs.own hk with e | e
  ·exact hlog.2 e
  ·have:=h.box.lt;omega
theorem aKE (n:Nat):(List.replicate n yV).map (·.1) = List.replicate n xE:=by rw [List.map_replicate];rfl
theorem aGW {w0 cw:World} {b:VB} {xb n:Nat} {D:aA} {V:cB} (h:TX w0 cw b xb D V) {o:Obj} (hs:cS (cw.alloc o) 3 (.slice (some ⟨cw.heap.size,0,none⟩) n n) (aL (List.replicate n yV))) (hn:n <= 100) (hc:jQ D V.L) (hst:D.steps + 200 <= 1000000000) (hb:V.br = false) :
  Calls Tryz.prog 42 #[.pointer (some ⟨b.vb,0,none⟩),.slice (some ⟨cw.heap.size,0,none⟩) n n] (cw.alloc o) fun e w'=>e = .returned (.int .i64 (dW D V (List.replicate n xE)).2.2) /\ TX w0 w' b xb (dW D V (List.replicate n xE)).1 (dW D V (List.replicate n xE)).2.1:=by
 have hbel:Below cw.heap.size cw (cw.alloc o):=(Below.refl _ _).alloc (Nat.le_refl _) _
 have h':=h.below hbel
 obtain ⟨ev,fv,el,h1,h2,h3⟩:=h.vlt
 have hf:Few (List.replicate n yV):=⟨by rw [List.length_replicate];exact hn,fun p hp=>by
  obtain ⟨_,rfl⟩:=List.mem_replicate.1 hp
  exact ⟨by decide,by decide,by decide⟩⟩
 have hda:bM (cw.alloc o) (jR b.lb b.db b.mb b.tb ev fv) (List.replicate n yV):=fun p hp=>by
  obtain ⟨_,rfl⟩:=List.mem_replicate.1 hp
  exact ⟨Bytes.nil _,⟨by decide,by decide,by decide,by decide⟩,nofun⟩
 have hm:qW (cw.alloc o) (jR b.lb b.db b.mb b.tb ev fv) (.slice (some ⟨cw.heap.size,0,none⟩) n n) (List.replicate n yV):=⟨hs,hda.toN,.inr fun k hk e=>by
  obtain rfl:cw.heap.size = k:=Option.some.inj hk
  have:=h1.log.jV e
  omega⟩
 refine (zW (h1.below hbel) hc hst hm hf hb).mono ?_
 rintro E w' ⟨rfl,ev',fv',el',h5,h6⟩
 rw [aKE] at h5 ⊢
 exact ⟨rfl,h'.step ⟨h2,h3⟩ h5 h6⟩
theorem aJw {w0 cw cw':World} {b:VB} {xb:Nat} {D:aA} {V:cB} {v:Value} (h:TX w0 cw b xb D V) (hbel:Below cw.heap.size cw cw') (hv:aE1 cw' cw.heap.size v (jW 2)) (hg:aW D) (hst:D.steps + 300 <= 1000000000) (hl:V.L.last <= H59) (hn:V.L.es.length <= 2147483648) (hb:V.br = false)
  (he:(cO D V.s (jW 2)).2 = 0) (hc:jQ (cO D V.s (jW 2)).1 V.L) :
  Calls Tryz.prog 81 #[.pointer (some ⟨b.vb,0,none⟩),v] cw' fun e w'=>e = .returned (.int .i64 (gV D V (jW 2)).2.2) /\ TX w0 w' b xb (gV D V (jW 2)).1 (gV D V (jW 2)).2.1:=by
 have h':=h.below hbel
 obtain ⟨ev,fv,el,h1,h2,h3⟩:=h.vlt
 obtain ⟨mv,dv,rfl,hm,hd,q1,q2⟩:=hv
 obtain ⟨am,cm,rfl,_⟩:=hm.shape
 obtain ⟨ad,cd,rfl,_⟩:=hd.shape
 have WP:=zZ (h1.below hbel) hg hst hl hn 2 1 [0] [97] am ad ([0]:List Int).length cm ([97]:List Nat).length cd (by decide)
  (fun w' hk=>⟨_,_,rfl,hm.kept hk (fun k hk e=>by have:=q1 k hk;have:=h1.jV e;omega),hd.kept hk (fun k hk e=>by have:=q2 k hk;have:=h1.jV e;omega)⟩) hb he hc (by decide)
 refine WP.mono ?_
 rintro E w' ⟨rfl,ev',fv',el',h5,h6⟩
 exact ⟨rfl,h'.step ⟨h2,h3⟩ h5 h6⟩
theorem aKp (w:World):cS (w.alloc (.cells #[.int .u64 1,.int .i64 1,.slice none 0 0,.int .u64 1,.int .i64 1,.slice none 0 0,.int .u64 1,.int .i64 1,.slice none 0 0] 38)) 3 (.slice (some ⟨w.heap.size,0,none⟩) 3 3) (aL (List.replicate 3 yV)):=by
 refine ⟨_,_,rfl,Nat.le_refl _,fun j hj=>?_⟩
 have hj':j < 3:=hj
 refine ⟨w.heap.size,0,rfl,by simp,fun i u hu=>?_⟩
 match j,hj' with
 | 0,_ =>
  have hu':[Value.int .u64 1,.int .i64 1,.slice none 0 0][i]? = some u:=hu
  match i,hu' with
  | 0, hu' => obtain rfl : Value.int .u64 1 = u := by simpa using hu'
              go_cell
  | 1, hu' => obtain rfl : Value.int .i64 1 = u := by simpa using hu'
              go_cell
  | 2, hu' => obtain rfl : Value.slice none 0 0 = u := by simpa using hu'
              go_cell
  | i + 3,hu'=>simp at hu'
 | 1,_ =>
  have hu':[Value.int .u64 1,.int .i64 1,.slice none 0 0][i]? = some u:=hu
  match i,hu' with
  | 0, hu' => obtain rfl : Value.int .u64 1 = u := by simpa using hu'
              go_cell
  | 1, hu' => obtain rfl : Value.int .i64 1 = u := by simpa using hu'
              go_cell
  | 2, hu' => obtain rfl : Value.slice none 0 0 = u := by simpa using hu'
              go_cell
  | i + 3,hu'=>simp at hu'
 | 2,_ =>
  have hu':[Value.int .u64 1,.int .i64 1,.slice none 0 0][i]? = some u:=hu
  match i,hu' with
  | 0, hu' => obtain rfl : Value.int .u64 1 = u := by simpa using hu'
              go_cell
  | 1, hu' => obtain rfl : Value.int .i64 1 = u := by simpa using hu'
              go_cell
  | 2, hu' => obtain rfl : Value.slice none 0 0 = u := by simpa using hu'
              go_cell
  | i + 3,hu'=>simp at hu'
theorem aJv {db mb tb:Nat} {D:aA} {w0 w w1:World} {b:VB} {ev fv:Value} {el:bE} {V:cB} (hb0:Below w0.heap.size w0 w) (ho3:∀ k,bB db mb tb k -> w0.heap.size <= k)
  (hv:aV w1 b ev fv el D V) (hk:Kept w w1 (bB db mb tb)) (ho:∀ k,gH b ev fv k -> bB db mb tb k \/ w.heap.size <= k) {w2:World} {t:TypeId} (h2:w2 = w1.alloc (.cells #[.int .u64 1,.int .i64 1,.slice none 0 0] t)):TX w0 w2 b w1.heap.size D V:=by
 subst h2
 have hbel:Below w1.heap.size w1 (w1.alloc (.cells #[.int .u64 1,.int .i64 1,.slice none 0 0] t)):=(Below.refl _ _).alloc (Nat.le_refl _) _
 have hb1:Below w0.heap.size w0 w1:=hb0.trans (hk.below hb0.size ho3)
 refine ⟨⟨ev,fv,el,hv.below hbel,fun k e=>?_,fun e=>by have:=hv.jV e;omega⟩,⟨by go_cell,by go_cell,by go_cell,by simp,by simp,by simp⟩,hb1.trans (hbel.mono hb1.size)⟩
 rcases ho k e with q | q
 ·exact ho3 k q
 ·have:=hb0.size;omega

theorem hY1:dW dX vX (List.replicate 3 xE) = rY1:=rfl
theorem hY2:gV rY1.1 rY1.2.1 (jW 2) = rY2:=rfl
set_option maxRecDepth 20000 in
theorem oP (w:World):Calls Tryz.prog 31 #[] w fun e w'=>e = .returned (.bool true) /\ Below w.heap.size w w':=by
 go_enter Tryz.func31,Tryz.ntmps31
 go_wp2_with fail
 refine (aKB 1000 w (by decide) (by decide)).mono ?_
 rintro e w1 ⟨db,mb,tb,rfl,hd1,hb1,h1,h2,h3⟩
 have D1:Hid (aG w1 db mb tb dX):=hid hd1
 have B1:=hid hb1
 have HO:Hid (∀ k,bB db mb tb k -> w.heap.size <= k):=hid (by rintro k (rfl | rfl | rfl) <;> assumption)
 clear hd1 hb1 h1 h2 h3
 go_wp2_with fail
 have WO:=zY D1.out aIO (by decide) aB0.1 aB0.2.1 aB0.2.2.1 (by rw [aB0.2.2.2];exact aKm) (by decide) (by decide) rfl
 rw [aLe] at WO
 refine WO.mono ?_
 clear WO
 rintro e w2 ⟨b,ev,fv,el,rfl,e1,e2,e3,hv,hk2,ho⟩
 have HV:=hid hv
 have HK:=hid hk2
 have HOW:=hid ho
 have HE:Hid (b.db = db /\ b.mb = mb /\ b.tb = tb):=hid ⟨e1,e2,e3⟩
 clear hv hk2 ho e1 e2 e3
 go_wp2_with fail
 generalize hw3:World.alloc w2 _ = w3
 have TX3:Hid (TX w w3 b w2.heap.size dX vX):=hid (aJv B1.out HO.out HV.out HK.out HOW.out hw3.symm)
 have HSZ:Hid (w3.heap.size = w2.heap.size + 1):=hid (by subst hw3;simp)
 clear hw3 HV HK HOW HE D1 B1 HO
 generalize w2.heap.size = xb at *
 obtain ⟨q0,q1,q2,_,_,_⟩:=TX3.out.box
 have ee:((rY1.2.2:Nat):Int) = 0:=by rw [y1.1];rfl
 go_wp2_with fail
 have WP:=aGW (n:=3) TX3.out (aKp w3) (by decide) aJP (by decide) rfl
 rw [hY1,ee,HSZ.out] at WP
 refine WP.mono ?_
 clear WP ee q0 q1 q2
 rintro e w4 ⟨rfl,h4⟩
 have TX4:=hid h4
 clear h4
 go_wp2_with fail
 refine (aGy 2 w4).mono ?_
 rintro e w5 ⟨v,rfl,hv5,hb5⟩
 have ee:((rY2.2.2:Nat):Int) = 0:=by rw [y2.1];rfl
 have WS:=aJw TX4.out hb5 hv5 y1c.1.fB (by have:=y1c.2;omega) (by rw [y1.2.2.2.1];decide) (by rw [y1.2.2.2.2.1];decide) y1.2.1 aIP.1 ⟨let ⟨P,h⟩:=y1c.1.inv;⟨P,h.aAX aKX⟩,aIP.2,((uE _ _ _).rising y1c.1.ris),(oK _ _ y1c.1.fB (by have:=y1c.2;omega)).1⟩
 rw [hY2,ee] at WS
 have HWS:=hid WS
 obtain ⟨mv,dv,rfl,_⟩:=hv5
 clear WS ee hb5
 go_wp2_with fail
 refine HWS.out.mono ?_
 rintro e w6 ⟨rfl,h6⟩
 have TX6:=hid h6
 clear h6 HWS
 obtain ⟨ev6,fv6,el6,hv6,_,_⟩:=TX6.out.vlt
 have HV6:=hid hv6
 clear hv6
 have WT:=aIH HV6.out (by rw [y2.2.2.1];decide) (by rw [y2.2.2.2];decide) 2
 rw [y2s.2] at WT
 have HWT:=hid WT
 clear WT
 go_wp2_with fail
 refine HWT.out.mono ?_
 rintro e w7 ⟨rfl,hb7⟩
 have TX7:=hid (TX6.out.below hb7)
 have HV7:=hid (HV6.out.below hb7)
 clear hb7 HV6
 dsimp only
 have WB:=uA HV7.out
 have es:rY2.2.1.s.i = 2:=by rw [y2s.1];rfl
 rw [es] at WB
 have HWB:=hid WB
 clear WB es
 go_wp2_with fail
 refine HWB.out.mono ?_
 rintro e w8 ⟨rfl,hb8⟩
 have TX8:=hid (TX7.out.below hb8)
 have HV8:=hid (HV7.out.below hb8)
 clear hb8 HV7
 have WL:=aIG HV8.out (by rw [y2.2.2.1];decide)
 rw [y2.2.2.1] at WL
 rw [show (((3:Nat):Int)) = 3 from rfl] at WL
 have HWL:=hid WL
 clear WL
 go_wp2_with fail
 refine HWL.out.mono ?_
 rintro e w9 ⟨rfl,hb9⟩
 have TX9:=hid (TX8.out.below hb9)
 have HV9:=hid (HV8.out.below hb9)
 clear hb9 HV8
 have WR:=aEI HV9.out
 rw [y2.2.1] at WR
 have HWR:=hid WR
 clear WR
 go_wp2_with fail
 refine HWR.out.mono ?_
 rintro e w10 ⟨rfl,rfl⟩
 go_wp2_with fail
 go_ret
 exact ⟨rfl,TX9.out.bel⟩
end Go.Proofs.YtjdglpcnkiioeaaGreat
namespace Go.Proofs.YtjdglpcnkiioeaaGreat
open Go.RowKit Go.Maps Go.Proofs.Own Go.Shelf

theorem gO.files {D D':aA} {V:cB} (h:gO D V) (hf:D'.files = D.files) (hd:D'.down = false) (hg:aW D'):gO D' V:=by
 obtain ⟨⟨⟨P,hi⟩,h2,h3,h4⟩,hbr,hsf,hvf,hlo,hhi,htm,hsaf⟩:=h
 exact ⟨⟨⟨P,hi.aAX (by unfold dO;rw [hf])⟩,hd,by rw [hf];exact h3,hg⟩,hbr,hsf.find (by rw [hf]),hvf.on (by rw [hf]),hlo,hhi,htm,hsaf⟩
theorem gO.arm {D:aA} {V:cB} (h:gO D V) {n:Int} (hn:n <= 9223372036854775807):gO (uH D n).1 V /\ (uH D n).1.steps = D.steps /\ (uH D n).1.down = false:=by
 have hg:=h.cut.fB.arm n hn
 unfold uH at hg ⊢
 have hd:=h.cut.up
 rw [if_neg (by rw [hd];decide)] at hg ⊢
 split at hg
 ·rename_i e
  rw [if_pos e]
  exact ⟨h,rfl,hd⟩
 ·rename_i e
  rw [if_neg e]
  exact ⟨h.files rfl hd hg,rfl,hd⟩
theorem aGl {w:World} {rs:List TOp} {r:TOp} (hl:gE rs = true) (hr:r ∈ rs) (ho:xT w r):∃ (ml:bE) (xms:List Int) (xd:List Nat),mN w r.lv ml /\ Few ml /\ ml.length = r.l.length /\ cG w (.agg #[.int .u64 r.i,.int .u64 r.t,.slice r.am r.nm r.cm,.slice r.ad r.nd r.cd]) ⟨(r.i:Int),r.t,xms,xd⟩:=by
 have h1:iQ r = true:=by
  unfold gE at hl
  rw [Bool.and_eq_true,List.all_eq_true] at hl
  exact hl.1 r hr
 unfold iQ at h1
 rw [Bool.and_eq_true,List.all_eq_true] at h1
 obtain ⟨h2,h3⟩:=h1
 have h4:=of_decide_eq_true h2
 obtain ⟨ml,h5,h6,h7⟩:=ho.l.aK2 fun e he=>of_decide_eq_true (h3 e he)
 obtain ⟨xms,_,q1⟩:=ho.m (by omega)
 obtain ⟨xd,_,q2⟩:=ho.d (by omega)
 exact ⟨ml,xms,xd,h5,⟨by omega,h7⟩,h6,_,_,rfl,q1,q2⟩
theorem aEC {rs:List TOp} (hl:gE rs = true):rs.length <= 60:=by
 unfold gE at hl
 rw [Bool.and_eq_true] at hl
 exact of_decide_eq_true hl.2
theorem aGU {w0:World} {v:Value} {ts:List (Nat × Nat)} (h:dV w0 v ts) {S:Nat -> Prop} (hs:∀ k,S k -> w0.heap.size <= k):ts = [] \/ ∀ b,v.ownBlock = some b -> ¬ S b:=by
 rcases ts with _ | ⟨x,l⟩
 ·exact .inl rfl
 ·refine .inr fun b hbb hS=>?_
  obtain ⟨a,c,rfl,_,hc⟩:=h.1
  obtain ⟨b',o,rfl,hlt,_⟩:=hc 0 (by simp)
  obtain rfl:b' = b:=Option.some.inj hbb
  have:=hs _ hS
  omega
end Go.Proofs.YtjdglpcnkiioeaaGreat
namespace Go.Proofs.YtjdglpcnkiioeaaGreat
open Go.Lib (hid)
open Go.RowKit Go.Maps Go.Proofs.Own Go.Shelf

structure iH (w:World) (B:Nat) (mv dv:Value) (s:aZ):Prop where
 m:cL w B 3 .i64 mv s.ms
 d:cL w B 5 .u8 dv (ints s.d)
 lt:∀ c ∈ s.d,c < 256
 sm:s.ms.length <= 2097152
 sd:s.d.length <= 2097152
theorem iH.is {w:World} {B:Nat} {mv dv:Value} {s:aZ} (h:iH w B mv dv s):cG w (.agg #[.int .u64 s.i,.int .u64 s.t,mv,dv]) s:=⟨mv,dv,rfl,Ints.eE h.m h.sm,Bytes.eE h.d h.lt h.sd⟩
theorem iH.zero (w:World) (B:Nat):iH w B (.slice none 0 0) (.slice none 0 0) iO:=⟨cL.nil _ _ _ _,cL.nil _ _ _ _,(fun _ h=>by cases h),by decide,by decide⟩
theorem iH.kept {w w':World} {B:Nat} {mv dv:Value} {s:aZ} {S:Nat -> Prop} (h:iH w B mv dv s) (hk:Kept w w' S) (h1:∀ b,mv.ownBlock = some b -> ¬ S b) (h2:∀ b,dv.ownBlock = some b -> ¬ S b):iH w' B mv dv s:=⟨h.m.kept hk h1,h.d.kept hk h2,h.lt,h.sm,h.sd⟩
theorem iH.sH {w:World} {B:Nat} {mv dv:Value} {s:aZ} (h:iH w B mv dv s):(∃ a n c,mv = .slice a n c) /\ ∃ a n c,dv = .slice a n c:=by
 obtain ⟨a,c,rfl⟩:=h.m.shape
 obtain ⟨a',c',rfl⟩:=h.d.shape
 exact ⟨⟨_,_,_,rfl⟩,⟨_,_,_,rfl⟩⟩
def aJF (s:aZ) (w:World):Ending -> World -> Prop:=fun e w'=>∃ am nm cm ad nd cd,e = .returned (.tuple #[.agg #[.int .u64 s.i,.int .u64 s.t,.slice am nm cm,.slice ad nd cd],.bool (decide (0 < s.i))]) /\ iH w' w.heap.size (.slice am nm cm) (.slice ad nd cd) s /\ Below w.heap.size w w'
theorem aIr (p:Option Addr) (db mb tb:Nat) (s:aZ) (w:World) (h:aB5 w p db mb tb s):Calls Tryz.prog 101 #[.pointer p] w (aJF s w):=by
 rcases h with ⟨rfl,rfl⟩ | ⟨sb,rfl,h,hk⟩
 ·refine (aFg none w (.inl rfl)).mono ?_
  rintro e w1 ⟨rfl,hb⟩
  exact ⟨_,_,_,_,_,_,rfl,iH.zero _ _,hb⟩
 ·rcases hk with rfl | hk
  ·refine (aIq sb db mb tb iO w h rfl).mono ?_
   rintro e w1 ⟨rfl,hb⟩
   exact ⟨_,_,_,_,_,_,rfl,iH.zero _ _,hb⟩
  ·refine (aC2 sb db mb tb s w h (by omega)).mono ?_
   rintro e w1 ⟨v,rfl,⟨mv,dv,rfl,h1,h2⟩,hb⟩
   obtain ⟨_,_,_,h3,h4,_⟩:=h
   rw [show true = decide (0 < s.i) from (decide_eq_true (by omega)).symm]
   have ho:iH w1 w.heap.size mv dv s:=⟨h1,h2,h4.lt,h3.small,h4.small⟩
   obtain ⟨⟨_,_,_,rfl⟩,⟨_,_,_,rfl⟩⟩:=ho.sH
   exact ⟨_,_,_,_,_,_,rfl,ho,hb⟩
set_option maxRecDepth 20000 in
theorem zX {w:World} {b:VB} {ev fv:Value} {el:bE} {D:aA} {V:cB} (h:aV w b ev fv el D V) :
  Calls Tryz.prog 47 #[.pointer (some ⟨b.vb,0,none⟩)] w (aJF V.s w):=by
 have HH:=hid h
 clear h
 obtain ⟨vb,bb,sb,lb,db,mb,tb,xq⟩:=b
 simp only
 go_enter Tryz.func47,Tryz.ntmps47
 go_wp2_with fail
 generalize hW1:World.alloc w _ = W1
 have A1:Hid (Below w.heap.size w W1):=hid (by subst hW1;exact (Below.refl _ _).alloc (Nat.le_refl _) _)
 have X1:Hid (bX W1 w.heap.size 0 0 (.slice none 0 0) (.slice none 0 0)):=hid (by subst hW1;exact bX.new w)
 clear hW1
 refine (qU (HH.out.below A1.out)).mono ?_
 rintro e w1 ⟨rfl,hb1⟩
 dsimp only
 have hfd:=aID bb sb lb
 have B1:Hid (Below w.heap.size w w1):=hid (A1.out.trans (hb1.mono A1.out.size))
 have X2:=hid (X1.out.below hb1)
 clear hb1
 go_wp2_with fail
 refine (aIr (some ⟨sb,0,none⟩) db mb tb V.s w1 (.inr ⟨sb,rfl,(HH.out.below B1.out).store.is,HH.out.sok⟩)).mono ?_
 rintro e w2 ⟨am,nm,cm,ad,nd,cd,rfl,hs,hb2⟩
 have HS:=hid hs
 have B2:Hid (Below w.heap.size w w2):=hid (B1.out.trans (hb2.mono B1.out.size))
 have HW:Hid (w.heap.size < w1.heap.size):=hid X2.out.lt
 have X3:=hid (X2.out.below hb2)
 obtain ⟨q0,q1,q2,q3,g0,g1,g2,g3⟩:=X3.out
 clear hb2 hs hfd
 go_wp2_with fail
 generalize hwF:World.setCell _ _ _ = wF
 have RF:Hid (bX wF w.heap.size V.s.i V.s.t (.slice am nm cm) (.slice ad nd cd)):=hid (by subst hwF;exact X3.out.iE _ _ _ _)
 have KF:Hid (Kept w2 wF (fun k=>k = w.heap.size)):=hid (by subst hwF;exact Kept.iE w2 w.heap.size _ _ _ _)
 have BF:Hid (Below w.heap.size w wF):=hid (B2.out.trans (KF.out.below B2.out.size (fun k hk=>by omega)))
 have SF:Hid (iH wF w.heap.size (.slice am nm cm) (.slice ad nd cd) V.s):=hid (by
  have hn:∀ k,w1.heap.size <= k -> ¬ k = w.heap.size:=fun k hk=>by have:=HW.out;omega
  have h1:=HS.out.kept KF.out (fun k hk=>hn k (HS.out.m.lt k hk).1) (fun k hk=>hn k (HS.out.d.lt k hk).1)
  exact ⟨h1.m.lower (fun b hb=>by have:=(h1.m.lt b hb).1;have:=HW.out;omega),h1.d.lower (fun b hb=>by have:=(h1.d.lt b hb).1;have:=HW.out;omega),h1.lt,h1.sm,h1.sd⟩)
 clear hwF q0 q1 q2 q3 g0 g1 g2 g3
 obtain ⟨q0,q1,q2,q3,_,_,_,_⟩:=RF.out
 refine bodyPost_ret (v:=.tuple #[.agg #[.int .u64 V.s.i,.int .u64 V.s.t,.slice am nm cm,.slice ad nd cd],.bool (decide (0 < V.s.i))]) (by simp [results,Tryz.results47,go_sem,q0,q1,q2,q3]) rfl ?_
 exact ⟨_,_,_,_,_,_,rfl,SF.out,BF.out⟩
structure jF (w:World) (b:Nat) (r:TOp):Prop where
 c:xS w b 0 r
 f:∀ j,j < 11 -> w.frozen? ⟨b,j,none⟩ = false
theorem jF.lt {w:World} {b:Nat} {r:TOp} (h:jF w b r):b < w.heap.size:=World.block_lt_of_cell? _ _ h.c.c0
theorem jF.kept {w w':World} {b:Nat} {r:TOp} {S:Nat -> Prop} (h:jF w b r) (hk:Kept w w' S) (hs:¬ S b):jF w' b r:=⟨h.c.kept hk hs,fun j hj=>(hk.frozen (a:=⟨b,j,none⟩) h.lt hs).trans (h.f j hj)⟩
theorem jF.below {w w':World} {b:Nat} {r:TOp} (h:jF w b r) (hb:Below w.heap.size w w'):jF w' b r:=h.kept (Kept.aJ hb (S:=fun _=>False) fun k h1 h2=>by omega) id
theorem jF.box (w:World) (r:TOp):jF (w.alloc (.cells (aED r).toArray 99)) w.heap.size r:=⟨xS.box w r,fun j hj=>by simp⟩
theorem jF.aLa {w:World} {b:Nat} {r:TOp} (h:jF w b r) (k:Int):jF (w.setCell ⟨b,0,none⟩ (.int .i64 k)) b { r with k:=k }:=by
 obtain ⟨⟨c0,c1,c2,c3,c4,c5,c6,c7,c8,c9,c10⟩,hf⟩:=h
 simp only [Nat.zero_add] at c1 c2 c3 c4 c5 c6 c7 c8 c9 c10
 refine ⟨⟨World.cell?_setCell_same _ _ _ c0,?_,?_,?_,?_,?_,?_,?_,?_,?_,?_⟩,fun j hj=>by rw [World.frozen?_setCell];exact hf j hj⟩
 ·rw [World.cell?_setCell_other _ _ _ _ (by simp)];simpa using c1
 ·rw [World.cell?_setCell_other _ _ _ _ (by simp)];simpa using c2
 ·rw [World.cell?_setCell_other _ _ _ _ (by simp)];simpa using c3
 ·rw [World.cell?_setCell_other _ _ _ _ (by simp)];simpa using c4
 ·rw [World.cell?_setCell_other _ _ _ _ (by simp)];simpa using c5
 ·rw [World.cell?_setCell_other _ _ _ _ (by simp)];simpa using c6
 ·rw [World.cell?_setCell_other _ _ _ _ (by simp)];simpa using c7
 ·rw [World.cell?_setCell_other _ _ _ _ (by simp)];simpa using c8
 ·rw [World.cell?_setCell_other _ _ _ _ (by simp)];simpa using c9
 ·rw [World.cell?_setCell_other _ _ _ _ (by simp)];simpa using c10
theorem jF.put {w:World} {b:Nat} {q r:TOp} (h:jF w b q):jF (((((((((((w.setCell ⟨b,0,none⟩ (.int .i64 r.k)).setCell ⟨b,1,none⟩ (.int .i64 r.n)).setCell ⟨b,2,none⟩ (.int .u64 r.a)).setCell ⟨b,3,none⟩ (r.lv)).setCell ⟨b,4,none⟩ (.int .u64 r.st)).setCell ⟨b,5,none⟩ (.int .i64 r.sv)).setCell ⟨b,6,none⟩ (.int .u64 r.i)).setCell ⟨b,7,none⟩ (.int .u64 r.t)).setCell ⟨b,8,none⟩ (.slice r.am r.nm r.cm)).setCell ⟨b,9,none⟩ (.slice r.ad r.nd r.cd)).setCell ⟨b,10,none⟩ (r.tv)) b r:=by
 obtain ⟨⟨c0,c1,c2,c3,c4,c5,c6,c7,c8,c9,c10⟩,hf⟩:=h
 simp only [Nat.zero_add] at c1 c2 c3 c4 c5 c6 c7 c8 c9 c10
 refine ⟨⟨?_,?_,?_,?_,?_,?_,?_,?_,?_,?_,?_⟩,fun j hj=>by simp only [World.frozen?_setCell];exact hf j hj⟩ <;> (try simp only [Nat.zero_add])
 ·rw [World.cell?_setCell_other _ _ _ _ (by simp)];rw [World.cell?_setCell_other _ _ _ _ (by simp)];rw [World.cell?_setCell_other _ _ _ _ (by simp)];rw [World.cell?_setCell_other _ _ _ _ (by simp)];rw [World.cell?_setCell_other _ _ _ _ (by simp)];rw [World.cell?_setCell_other _ _ _ _ (by simp)];rw [World.cell?_setCell_other _ _ _ _ (by simp)];rw [World.cell?_setCell_other _ _ _ _ (by simp)];rw [World.cell?_setCell_other _ _ _ _ (by simp)];rw [World.cell?_setCell_other _ _ _ _ (by simp)];exact World.cell?_setCell_same _ _ _ (by simpa using c0)
 ·rw [World.cell?_setCell_other _ _ _ _ (by simp)];rw [World.cell?_setCell_other _ _ _ _ (by simp)];rw [World.cell?_setCell_other _ _ _ _ (by simp)];rw [World.cell?_setCell_other _ _ _ _ (by simp)];rw [World.cell?_setCell_other _ _ _ _ (by simp)];rw [World.cell?_setCell_other _ _ _ _ (by simp)];rw [World.cell?_setCell_other _ _ _ _ (by simp)];rw [World.cell?_setCell_other _ _ _ _ (by simp)];rw [World.cell?_setCell_other _ _ _ _ (by simp)];exact World.cell?_setCell_same _ _ _ (by rw [World.cell?_setCell_other _ _ _ _ (by simp)];simpa using c1)
 ·rw [World.cell?_setCell_other _ _ _ _ (by simp)];rw [World.cell?_setCell_other _ _ _ _ (by simp)];rw [World.cell?_setCell_other _ _ _ _ (by simp)];rw [World.cell?_setCell_other _ _ _ _ (by simp)];rw [World.cell?_setCell_other _ _ _ _ (by simp)];rw [World.cell?_setCell_other _ _ _ _ (by simp)];rw [World.cell?_setCell_other _ _ _ _ (by simp)];rw [World.cell?_setCell_other _ _ _ _ (by simp)];exact World.cell?_setCell_same _ _ _ (by rw [World.cell?_setCell_other _ _ _ _ (by simp)];rw [World.cell?_setCell_other _ _ _ _ (by simp)];simpa using c2)
 ·rw [World.cell?_setCell_other _ _ _ _ (by simp)];rw [World.cell?_setCell_other _ _ _ _ (by simp)];rw [World.cell?_setCell_other _ _ _ _ (by simp)];rw [World.cell?_setCell_other _ _ _ _ (by simp)];rw [World.cell?_setCell_other _ _ _ _ (by simp)];rw [World.cell?_setCell_other _ _ _ _ (by simp)];rw [World.cell?_setCell_other _ _ _ _ (by simp)];exact World.cell?_setCell_same _ _ _ (by rw [World.cell?_setCell_other _ _ _ _ (by simp)];rw [World.cell?_setCell_other _ _ _ _ (by simp)];rw [World.cell?_setCell_other _ _ _ _ (by simp)];simpa using c3)
 ·rw [World.cell?_setCell_other _ _ _ _ (by simp)];rw [World.cell?_setCell_other _ _ _ _ (by simp)];rw [World.cell?_setCell_other _ _ _ _ (by simp)];rw [World.cell?_setCell_other _ _ _ _ (by simp)];rw [World.cell?_setCell_other _ _ _ _ (by simp)];rw [World.cell?_setCell_other _ _ _ _ (by simp)];exact World.cell?_setCell_same _ _ _ (by rw [World.cell?_setCell_other _ _ _ _ (by simp)];rw [World.cell?_setCell_other _ _ _ _ (by simp)];rw [World.cell?_setCell_other _ _ _ _ (by simp)];rw [World.cell?_setCell_other _ _ _ _ (by simp)];simpa using c4)
 ·rw [World.cell?_setCell_other _ _ _ _ (by simp)];rw [World.cell?_setCell_other _ _ _ _ (by simp)];rw [World.cell?_setCell_other _ _ _ _ (by simp)];rw [World.cell?_setCell_other _ _ _ _ (by simp)];rw [World.cell?_setCell_other _ _ _ _ (by simp)];exact World.cell?_setCell_same _ _ _ (by rw [World.cell?_setCell_other _ _ _ _ (by simp)];rw [World.cell?_setCell_other _ _ _ _ (by simp)];rw [World.cell?_setCell_other _ _ _ _ (by simp)];rw [World.cell?_setCell_other _ _ _ _ (by simp)];rw [World.cell?_setCell_other _ _ _ _ (by simp)];simpa using c5)
 ·rw [World.cell?_setCell_other _ _ _ _ (by simp)];rw [World.cell?_setCell_other _ _ _ _ (by simp)];rw [World.cell?_setCell_other _ _ _ _ (by simp)];rw [World.cell?_setCell_other _ _ _ _ (by simp)];exact World.cell?_setCell_same _ _ _ (by rw [World.cell?_setCell_other _ _ _ _ (by simp)];rw [World.cell?_setCell_other _ _ _ _ (by simp)];rw [World.cell?_setCell_other _ _ _ _ (by simp)];rw [World.cell?_setCell_other _ _ _ _ (by simp)];rw [World.cell?_setCell_other _ _ _ _ (by simp)];rw [World.cell?_setCell_other _ _ _ _ (by simp)];simpa using c6)
 ·rw [World.cell?_setCell_other _ _ _ _ (by simp)];rw [World.cell?_setCell_other _ _ _ _ (by simp)];rw [World.cell?_setCell_other _ _ _ _ (by simp)];exact World.cell?_setCell_same _ _ _ (by rw [World.cell?_setCell_other _ _ _ _ (by simp)];rw [World.cell?_setCell_other _ _ _ _ (by simp)];rw [World.cell?_setCell_other _ _ _ _ (by simp)];rw [World.cell?_setCell_other _ _ _ _ (by simp)];rw [World.cell?_setCell_other _ _ _ _ (by simp)];rw [World.cell?_setCell_other _ _ _ _ (by simp)];rw [World.cell?_setCell_other _ _ _ _ (by simp)];simpa using c7)
 ·rw [World.cell?_setCell_other _ _ _ _ (by simp)];rw [World.cell?_setCell_other _ _ _ _ (by simp)];exact World.cell?_setCell_same _ _ _ (by rw [World.cell?_setCell_other _ _ _ _ (by simp)];rw [World.cell?_setCell_other _ _ _ _ (by simp)];rw [World.cell?_setCell_other _ _ _ _ (by simp)];rw [World.cell?_setCell_other _ _ _ _ (by simp)];rw [World.cell?_setCell_other _ _ _ _ (by simp)];rw [World.cell?_setCell_other _ _ _ _ (by simp)];rw [World.cell?_setCell_other _ _ _ _ (by simp)];rw [World.cell?_setCell_other _ _ _ _ (by simp)];simpa using c8)
 ·rw [World.cell?_setCell_other _ _ _ _ (by simp)];exact World.cell?_setCell_same _ _ _ (by rw [World.cell?_setCell_other _ _ _ _ (by simp)];rw [World.cell?_setCell_other _ _ _ _ (by simp)];rw [World.cell?_setCell_other _ _ _ _ (by simp)];rw [World.cell?_setCell_other _ _ _ _ (by simp)];rw [World.cell?_setCell_other _ _ _ _ (by simp)];rw [World.cell?_setCell_other _ _ _ _ (by simp)];rw [World.cell?_setCell_other _ _ _ _ (by simp)];rw [World.cell?_setCell_other _ _ _ _ (by simp)];rw [World.cell?_setCell_other _ _ _ _ (by simp)];simpa using c9)
 ·exact World.cell?_setCell_same _ _ _ (by rw [World.cell?_setCell_other _ _ _ _ (by simp)];rw [World.cell?_setCell_other _ _ _ _ (by simp)];rw [World.cell?_setCell_other _ _ _ _ (by simp)];rw [World.cell?_setCell_other _ _ _ _ (by simp)];rw [World.cell?_setCell_other _ _ _ _ (by simp)];rw [World.cell?_setCell_other _ _ _ _ (by simp)];rw [World.cell?_setCell_other _ _ _ _ (by simp)];rw [World.cell?_setCell_other _ _ _ _ (by simp)];rw [World.cell?_setCell_other _ _ _ _ (by simp)];rw [World.cell?_setCell_other _ _ _ _ (by simp)];simpa using c10)
theorem jF.aJf (w:World) (b:Nat) (r:TOp):Kept w (((((((((((w.setCell ⟨b,0,none⟩ (.int .i64 r.k)).setCell ⟨b,1,none⟩ (.int .i64 r.n)).setCell ⟨b,2,none⟩ (.int .u64 r.a)).setCell ⟨b,3,none⟩ (r.lv)).setCell ⟨b,4,none⟩ (.int .u64 r.st)).setCell ⟨b,5,none⟩ (.int .i64 r.sv)).setCell ⟨b,6,none⟩ (.int .u64 r.i)).setCell ⟨b,7,none⟩ (.int .u64 r.t)).setCell ⟨b,8,none⟩ (.slice r.am r.nm r.cm)).setCell ⟨b,9,none⟩ (.slice r.ad r.nd r.cd)).setCell ⟨b,10,none⟩ (r.tv)) (fun k=>k = b) :=
 ((((((((((Kept.setCell w ⟨b,0,none⟩ _).trans (Kept.setCell _ ⟨b,1,none⟩ _)).trans (Kept.setCell _ ⟨b,2,none⟩ _)).trans (Kept.setCell _ ⟨b,3,none⟩ _)).trans (Kept.setCell _ ⟨b,4,none⟩ _)).trans (Kept.setCell _ ⟨b,5,none⟩ _)).trans (Kept.setCell _ ⟨b,6,none⟩ _)).trans (Kept.setCell _ ⟨b,7,none⟩ _)).trans (Kept.setCell _ ⟨b,8,none⟩ _)).trans (Kept.setCell _ ⟨b,9,none⟩ _)).trans (Kept.setCell _ ⟨b,10,none⟩ _)
def NM (N:Nat -> Prop) (stB snB laB:Nat):Nat -> Prop:=fun k=>N k \/ k = stB \/ k = snB \/ k = laB
structure KS (w:World) (N:Nat -> Prop) (stB snB laB:Nat) (t v:Int) (s:aZ) (av:Value) (al:bE) (q:TOp):Prop where
 ne:stB ≠ snB /\ stB ≠ laB /\ snB ≠ laB
 nst:¬ N stB /\ ¬ N snB /\ ¬ N laB
 n8:eG w stB /\ eG w snB /\ eG w laB
 st:SC w stB t v
 sn:∃ am nm cm ad nd cd B,bX w snB s.i s.t (.slice am nm cm) (.slice ad nd cd) /\ iH w B (.slice am nm cm) (.slice ad nd cd) s /\ (∀ b,(Value.slice am nm cm).ownBlock = some b -> ¬ NM N stB snB laB b) /\ ∀ b,(Value.slice ad nd cd).ownBlock = some b -> ¬ NM N stB snB laB b
 la:jF w laB q
 own:cA w 38 3 av (aL al)
 nal:∀ b,av.ownBlock = some b -> ¬ NM N stB snB laB b
 dat:gL w (NM N stB snB laB) al
theorem tN {w:World} {e:TypeId} {sz:Nat} {v:Value} {rs:List (List Value)} (h:cA w e sz v rs) {b:Nat} (hb:v.ownBlock = some b):b < w.heap.size:=by
 rcases h.own with ⟨rfl,_⟩ | ⟨g,cap,cur,rfl,hg,_⟩
 ·cases hb
 ·obtain rfl:g = b:=Option.some.inj hb
  exact (Array.getElem?_eq_some_iff.1 hg).1
theorem aCk {w w':World} {S T:Nat -> Prop} {l:bE} (h:gL w S l) (hk:Kept w w' S) (hN:∀ k,k < w.heap.size -> ¬ S k -> ¬ T k):gL w' T l:=by
 intro p hp
 obtain ⟨d1,d2,d3⟩:=h p hp
 refine ⟨d1.lS hk fun hne b hb=>d3 hne b hb,d2,fun hne b hb=>?_⟩
 obtain ⟨b',o,c,e2,_,hlt,_⟩:=d1.fG (List.length_pos_iff.2 hne)
 rw [e2] at hb
 obtain rfl:b' = b:=Option.some.inj hb
 exact hN _ hlt (d3 hne _ (by rw [e2];rfl))
theorem KS.step {w w':World} {N N':Nat -> Prop} {stB snB laB:Nat} {t v:Int} {s:aZ} {av:Value} {al:bE} {q:TOp} (h:KS w N stB snB laB t v s av al q) (hk:Kept w w' N) (hN:∀ k,k < w.heap.size -> ¬ N k -> ¬ N' k):KS w' N' stB snB laB t v s av al q:=by
 obtain ⟨am,nm,cm,ad,nd,cd,B,s1,s2,s3,s4⟩:=h.sn
 have hk2:Kept w w' (NM N stB snB laB):=hk.mono fun _ _ e=>.inl e
 have hM:∀ k,k < w.heap.size -> ¬ NM N stB snB laB k -> ¬ NM N' stB snB laB k:=fun k h1 h2 h3=>h3.elim (hN k h1 fun e=>h2 (.inl e)) fun e=>h2 (.inr e)
 exact ⟨h.ne,⟨hN _ h.st.lt h.nst.1,hN _ s1.lt h.nst.2.1,hN _ h.la.lt h.nst.2.2⟩,⟨h.n8.1.kept hk h.st.lt h.nst.1,h.n8.2.1.kept hk s1.lt h.nst.2.1,h.n8.2.2.kept hk h.la.lt h.nst.2.2⟩,h.st.kept hk h.nst.1,⟨am,nm,cm,ad,nd,cd,B,s1.kept hk h.nst.2.1,s2.kept hk2 s3 s4,fun b hb=>hM b (s2.m.lt b hb).2 (s3 b hb),fun b hb=>hM b (s2.d.lt b hb).2 (s4 b hb)⟩,h.la.kept hk h.nst.2.2,h.own.kept hk2 h.nal,fun b hb=>hM b (tN h.own hb) (h.nal b hb),aCk h.dat hk2 hM⟩
theorem KS.below {w w':World} {N:Nat -> Prop} {stB snB laB:Nat} {t v:Int} {s:aZ} {av:Value} {al:bE} {q:TOp} (h:KS w N stB snB laB t v s av al q) (hb:Below w.heap.size w w'):KS w' N stB snB laB t v s av al q:=h.step (Kept.aJ hb fun k h1 h2=>by omega) fun _ _ h=>h
theorem pI {w w':World} {S T:Nat -> Prop} {l:bE} (h:gL w S l) (hk:Kept w w' T) (hT:∀ k,T k -> S k):gL w' S l:=fun p hp=>⟨((h p hp).1).lS hk fun hne b hb e=>(h p hp).2.2 hne b hb (hT b e),(h p hp).2⟩
theorem KS.last {w w':World} {N:Nat -> Prop} {stB snB laB:Nat} {t v:Int} {s:aZ} {av:Value} {al:bE} {q r:TOp} (h:KS w N stB snB laB t v s av al q) (hk:Kept w w' (fun k=>k = laB)) (hr:jF w' laB r) (h8:eG w' laB):KS w' N stB snB laB t v s av al r:=by
 obtain ⟨am,nm,cm,ad,nd,cd,B,s1,s2,s3,s4⟩:=h.sn
 have hn:∀ k,¬ NM N stB snB laB k -> ¬ k = laB:=fun k h1 e=>h1 (.inr (.inr (.inr e)))
 exact ⟨h.ne,h.nst,⟨h.n8.1.kept hk h.st.lt h.ne.2.1,h.n8.2.1.kept hk s1.lt h.ne.2.2,h8⟩,h.st.kept hk h.ne.2.1,⟨am,nm,cm,ad,nd,cd,B,s1.kept hk h.ne.2.2,s2.kept hk (fun b hb=>hn b (s3 b hb)) (fun b hb=>hn b (s4 b hb)),s3,s4⟩,hr,h.own.kept hk fun b hb=>hn b (h.nal b hb),h.nal,pI h.dat hk fun _ e=>.inr (.inr (.inr e))⟩
theorem KS.aKM {w w':World} {N:Nat -> Prop} {stB snB laB:Nat} {t v t' v':Int} {s:aZ} {av:Value} {al:bE} {q:TOp} (h:KS w N stB snB laB t v s av al q) (hk:Kept w w' (fun k=>k = stB)) (hr:SC w' stB t' v') (h8:eG w' stB):KS w' N stB snB laB t' v' s av al q:=by
 obtain ⟨am,nm,cm,ad,nd,cd,B,s1,s2,s3,s4⟩:=h.sn
 have hn:∀ k,¬ NM N stB snB laB k -> ¬ k = stB:=fun k h1 e=>h1 (.inr (.inl e))
 have h2:¬ snB = stB:=fun e=>h.ne.1 e.symm
 have h3:¬ laB = stB:=fun e=>h.ne.2.1 e.symm
 exact ⟨h.ne,h.nst,⟨h8,h.n8.2.1.kept hk s1.lt h2,h.n8.2.2.kept hk h.la.lt h3⟩,hr,⟨am,nm,cm,ad,nd,cd,B,s1.kept hk h2,s2.kept hk (fun b hb=>hn b (s3 b hb)) (fun b hb=>hn b (s4 b hb)),s3,s4⟩,h.la.kept hk h3,h.own.kept hk fun b hb=>hn b (h.nal b hb),h.nal,pI h.dat hk fun _ e=>.inr (.inl e)⟩
theorem KS.aKL {w w':World} {N:Nat -> Prop} {stB snB laB:Nat} {t v:Int} {s s':aZ} {av:Value} {al:bE} {q:TOp} (h:KS w N stB snB laB t v s av al q) (hk:Kept w w' (fun k=>k = snB)) {am ad:Option Addr} {nm cm nd cd B:Nat} (hr:bX w' snB s'.i s'.t (.slice am nm cm) (.slice ad nd cd)) (ho:iH w' B (.slice am nm cm) (.slice ad nd cd) s')
  (h1:∀ b,(Value.slice am nm cm).ownBlock = some b -> ¬ NM N stB snB laB b) (h2:∀ b,(Value.slice ad nd cd).ownBlock = some b -> ¬ NM N stB snB laB b) (h8:eG w' snB):KS w' N stB snB laB t v s' av al q:=by
 have hn:∀ k,¬ NM N stB snB laB k -> ¬ k = snB:=fun k h1 e=>h1 (.inr (.inr (.inl e)))
 have h3:¬ laB = snB:=fun e=>h.ne.2.2 e.symm
 exact ⟨h.ne,h.nst,⟨h.n8.1.kept hk h.st.lt h.ne.1,h8,h.n8.2.2.kept hk h.la.lt h3⟩,h.st.kept hk h.ne.1,⟨am,nm,cm,ad,nd,cd,B,hr,ho,h1,h2⟩,h.la.kept hk h3,h.own.kept hk fun b hb=>hn b (h.nal b hb),h.nal,pI h.dat hk fun _ e=>.inr (.inr (.inl e))⟩
theorem KS.aKK {w:World} {N:Nat -> Prop} {stB snB laB:Nat} {t v:Int} {s:aZ} {av av':Value} {al al':bE} {q:TOp} (h:KS w N stB snB laB t v s av al q) (h1:cA w 38 3 av' (aL al')) (h2:∀ b,av'.ownBlock = some b -> ¬ NM N stB snB laB b) (h3:gL w (NM N stB snB laB) al'):KS w N stB snB laB t v s av' al' q :=
 ⟨h.ne,h.nst,h.n8,h.st,h.sn,h.la,h1,h2,h3⟩
theorem eG.below {w w':World} {b:Nat} (h:eG w b) (hb:Below w.heap.size w w') (hl:b < w.heap.size):eG w' b:=h.kept (Kept.aJ hb (S:=fun _=>False) fun k h1 h2=>by omega) hl id
theorem SC.n8 {w:World} {b:Nat} {t v:Int} (h:SC w b t v) (h8:eG w b) (t' v':Int):eG ((w.setCell ⟨b,0,none⟩ (.int .u64 t')).setCell ⟨b,1,none⟩ (.int .i64 v')) b :=
 (h8.set _ h.c0 (fun y e=>by cases e)).set ⟨b,1,none⟩ (u:=.int .i64 v) (by rw [World.cell?_setCell_other _ _ _ _ (by simp)];exact h.c1) (fun y e=>by cases e)
theorem bX.n8 {w:World} {b:Nat} {i t:Int} {mv dv:Value} (h:bX w b i t mv dv) (h8:eG w b) (i' t':Int) (am ad:Option Addr) (nm cm nd cd:Nat):eG ((((w.setCell ⟨b,0,none⟩ (.int .u64 i')).setCell ⟨b,1,none⟩ (.int .u64 t')).setCell ⟨b,2,none⟩ (.slice am nm cm)).setCell ⟨b,3,none⟩ (.slice ad nd cd)) b:=by
 have a0:=h8.set ⟨b,0,none⟩ h.c0 (v:=.int .u64 i') (fun y e=>by cases e)
 have q1:=h.zJ i'
 have a1:=a0.set ⟨b,1,none⟩ q1.c1 (v:=.int .u64 t') (fun y e=>by cases e)
 have q2:=q1.sD t'
 have a2:=a1.set ⟨b,2,none⟩ q2.c2 (v:=.slice am nm cm) (fun y e=>by cases e)
 have q3:=q2.kV (.slice am nm cm)
 exact a2.set ⟨b,3,none⟩ q3.c3 (v:=.slice ad nd cd) (fun y e=>by cases e)
theorem jF.n8 {w:World} {b:Nat} {q r:TOp} (h:jF w b q) (h8:eG w b) (hl:∀ x,r.lv ≠ .int .u8 x) (ht:∀ x,r.tv ≠ .int .u8 x):eG (((((((((((w.setCell ⟨b,0,none⟩ (.int .i64 r.k)).setCell ⟨b,1,none⟩ (.int .i64 r.n)).setCell ⟨b,2,none⟩ (.int .u64 r.a)).setCell ⟨b,3,none⟩ (r.lv)).setCell ⟨b,4,none⟩ (.int .u64 r.st)).setCell ⟨b,5,none⟩ (.int .i64 r.sv)).setCell ⟨b,6,none⟩ (.int .u64 r.i)).setCell ⟨b,7,none⟩ (.int .u64 r.t)).setCell ⟨b,8,none⟩ (.slice r.am r.nm r.cm)).setCell ⟨b,9,none⟩ (.slice r.ad r.nd r.cd)).setCell ⟨b,10,none⟩ (r.tv)) b:=by
 obtain ⟨⟨c0,c1,c2,c3,c4,c5,c6,c7,c8,c9,c10⟩,hf⟩:=h
 simp only [Nat.zero_add] at c1 c2 c3 c4 c5 c6 c7 c8 c9 c10
 have a0:=h8.set ⟨b,0,none⟩ c0 (v:=.int .i64 r.k) (fun y e=>by cases e)
 have a1:=a0.set ⟨b,1,none⟩ (by rw [World.cell?_setCell_other _ _ _ _ (by simp)];exact c1) (v:=.int .i64 r.n) (fun y e=>by cases e)
 have a2:=a1.set ⟨b,2,none⟩ (by rw [World.cell?_setCell_other _ _ _ _ (by simp)];rw [World.cell?_setCell_other _ _ _ _ (by simp)];exact c2) (v:=.int .u64 r.a) (fun y e=>by cases e)
 have a3:=a2.set ⟨b,3,none⟩ (by rw [World.cell?_setCell_other _ _ _ _ (by simp)];rw [World.cell?_setCell_other _ _ _ _ (by simp)];rw [World.cell?_setCell_other _ _ _ _ (by simp)];exact c3) (v:=r.lv) (hl)
 have a4:=a3.set ⟨b,4,none⟩ (by rw [World.cell?_setCell_other _ _ _ _ (by simp)];rw [World.cell?_setCell_other _ _ _ _ (by simp)];rw [World.cell?_setCell_other _ _ _ _ (by simp)];rw [World.cell?_setCell_other _ _ _ _ (by simp)];exact c4) (v:=.int .u64 r.st) (fun y e=>by cases e)
 have a5:=a4.set ⟨b,5,none⟩ (by rw [World.cell?_setCell_other _ _ _ _ (by simp)];rw [World.cell?_setCell_other _ _ _ _ (by simp)];rw [World.cell?_setCell_other _ _ _ _ (by simp)];rw [World.cell?_setCell_other _ _ _ _ (by simp)];rw [World.cell?_setCell_other _ _ _ _ (by simp)];exact c5) (v:=.int .i64 r.sv) (fun y e=>by cases e)
 have a6:=a5.set ⟨b,6,none⟩ (by rw [World.cell?_setCell_other _ _ _ _ (by simp)];rw [World.cell?_setCell_other _ _ _ _ (by simp)];rw [World.cell?_setCell_other _ _ _ _ (by simp)];rw [World.cell?_setCell_other _ _ _ _ (by simp)];rw [World.cell?_setCell_other _ _ _ _ (by simp)];rw [World.cell?_setCell_other _ _ _ _ (by simp)];exact c6) (v:=.int .u64 r.i) (fun y e=>by cases e)
 have a7:=a6.set ⟨b,7,none⟩ (by rw [World.cell?_setCell_other _ _ _ _ (by simp)];rw [World.cell?_setCell_other _ _ _ _ (by simp)];rw [World.cell?_setCell_other _ _ _ _ (by simp)];rw [World.cell?_setCell_other _ _ _ _ (by simp)];rw [World.cell?_setCell_other _ _ _ _ (by simp)];rw [World.cell?_setCell_other _ _ _ _ (by simp)];rw [World.cell?_setCell_other _ _ _ _ (by simp)];exact c7) (v:=.int .u64 r.t) (fun y e=>by cases e)
 have a8:=a7.set ⟨b,8,none⟩ (by rw [World.cell?_setCell_other _ _ _ _ (by simp)];rw [World.cell?_setCell_other _ _ _ _ (by simp)];rw [World.cell?_setCell_other _ _ _ _ (by simp)];rw [World.cell?_setCell_other _ _ _ _ (by simp)];rw [World.cell?_setCell_other _ _ _ _ (by simp)];rw [World.cell?_setCell_other _ _ _ _ (by simp)];rw [World.cell?_setCell_other _ _ _ _ (by simp)];rw [World.cell?_setCell_other _ _ _ _ (by simp)];exact c8) (v:=.slice r.am r.nm r.cm) (fun y e=>by cases e)
 have a9:=a8.set ⟨b,9,none⟩ (by rw [World.cell?_setCell_other _ _ _ _ (by simp)];rw [World.cell?_setCell_other _ _ _ _ (by simp)];rw [World.cell?_setCell_other _ _ _ _ (by simp)];rw [World.cell?_setCell_other _ _ _ _ (by simp)];rw [World.cell?_setCell_other _ _ _ _ (by simp)];rw [World.cell?_setCell_other _ _ _ _ (by simp)];rw [World.cell?_setCell_other _ _ _ _ (by simp)];rw [World.cell?_setCell_other _ _ _ _ (by simp)];rw [World.cell?_setCell_other _ _ _ _ (by simp)];exact c9) (v:=.slice r.ad r.nd r.cd) (fun y e=>by cases e)
 have a10:=a9.set ⟨b,10,none⟩ (by rw [World.cell?_setCell_other _ _ _ _ (by simp)];rw [World.cell?_setCell_other _ _ _ _ (by simp)];rw [World.cell?_setCell_other _ _ _ _ (by simp)];rw [World.cell?_setCell_other _ _ _ _ (by simp)];rw [World.cell?_setCell_other _ _ _ _ (by simp)];rw [World.cell?_setCell_other _ _ _ _ (by simp)];rw [World.cell?_setCell_other _ _ _ _ (by simp)];rw [World.cell?_setCell_other _ _ _ _ (by simp)];rw [World.cell?_setCell_other _ _ _ _ (by simp)];rw [World.cell?_setCell_other _ _ _ _ (by simp)];exact c10) (v:=r.tv) (ht)
 exact a10
def aAi (b:VB) (ev fv:Value) (z:Nat) (w:World) (s:aZ):Prop:=cM (fun k=>uD b.X b.vb b.bb b.lb b.db b.mb b.tb ev fv k /\ k < z) w b.sb b.db b.mb b.tb s
theorem aAi.make {w:World} {b:VB} {ev fv:Value} {el:bE} {D:aA} {V:cB} (h:aV w b ev fv el D V):aAi b ev fv w.heap.size w V.s:=h.store.sM fun _ h1 h2=>⟨h1,h2⟩
theorem aAi.below {b:VB} {ev fv:Value} {z:Nat} {w w':World} {s:aZ} (h:aAi b ev fv z w s) (hb:Below w.heap.size w w'):aAi b ev fv z w' s:=cM.below h hb
theorem aAi.kept {b:VB} {ev fv:Value} {z:Nat} {w w':World} {s:aZ} (h:aAi b ev fv z w s) (hk:Kept w w' (bB b.db b.mb b.tb)):aAi b ev fv z w' s:=cM.kept h hk
theorem aV.aKy {w:World} {b:VB} {ev fv:Value} {el:bE} {D:aA} {V:cB} (h:aV w b ev fv el D V) {z x y:Nat} (hs:aAi b ev fv z w V.s) (h1:z <= x) (h2:z <= y) (h3:x < w.heap.size) (h4:y < w.heap.size) :
  ∃ b':VB,b'.vb = b.vb /\ b'.db = b.db /\ b'.mb = b.mb /\ b'.tb = b.tb /\ (∀ ev fv,gH b' ev fv = gH b ev fv) /\ (¬ b'.X x /\ ¬ b'.X y) /\ aV w b' ev fv el D V :=
 ⟨{ b with X:=fun k=>k ≠ x /\ k ≠ y },rfl,rfl,rfl,rfl,fun _ _=>rfl,⟨fun e=>e.1 rfl,fun e=>e.2 rfl⟩,h.aLb (cM.sM hs fun k h _=>⟨h.1,by have:=h.2;omega,by have:=h.2;omega⟩) fun k hk=>⟨by omega,by omega⟩⟩
end Go.Proofs.YtjdglpcnkiioeaaGreat
