/- Several texts in one: Wyc, Wyd, Vta, Vtb, Vtc, Vtd, Vte, Vtf, Vtg, Vth, Vtj, Vtl. What each proves stands ahead of it; together they serve vbroken_law_holds. No conditions but those stated. -/
import Derived.Test.YtjdglpcnkiioeaaGreatVbb17
import Derived.Test.YtjdglpcnkiioeaaGreatVbb37
import Derived.Test.YtjdglpcnkiioeaaGreatVbb30
import Derived.Test.YtjdglpcnkiioeaaGreatVbb26
import Derived.Test.YtjdglpcnkiioeaaGreatVbb33
import Derived.Test.YtjdglpcnkiioeaaGreatVbb38
import Derived.Test.YtjdglpcnkiioeaaGreatVbb29
import Derived.Test.YtjdglpcnkiioeaaGreatVbb21
import Derived.Test.YtjdglpcnkiioeaaGreatVbb31
namespace Go.Proofs.YtjdglpcnkiioeaaGreat
open Go.ChangeShapes Go.WideShapes Go.ChangeAt Go.RowKit Go.Deep Go.Proofs.Own

structure EArg where
  t : Int
  k : Int
  da : Option Addr
  dn : Nat
  dc : Nat
def earV (r : EArg) : List Value := [.int .u64 r.t, .int .i64 r.k, .slice r.da r.dn r.dc]
def EArgOk (w : World) (r : EArg) : Prop := (0 <= r.t /\ r.t < 18446744073709551616 /\ -9223372036854775808 <= r.k /\ r.k <= 9223372036854775807) /\ (r.dn <= 2097152 -> ∃ l, l.length = r.dn /\ Bytes w (.slice r.da r.dn r.dc) l)
def EArgsIs (w : World) (v : Value) (l : List EArg) : Prop := SRow w 3 v (l.map earV) /\ (∀ r ∈ l, EArgOk w r) /\ l.length <= maxLen
theorem cellsEntry : Tryz.prog.cellsOf 38 = 3 := by kernel_rfl
theorem cellsEntries : Tryz.prog.cellsOf 23 = 1 := by kernel_rfl
theorem cellsTearsW : Tryz.prog.cellsOf 24 = 1 := by kernel_rfl
theorem cellsBytesW : Tryz.prog.cellsOf 36 = 1 := by kernel_rfl
section
variable {H : Type} {enc : TypeId × Value -> H} {W : World}
set_option maxRecDepth 100000 in
theorem open_earg {n : Nat} {cs : List Value} {y : DataW H × List MemPlace} (h : DataW.trod enc Tryz.prog W 0 (fun _ => true) true n 38 cs = some y) : ∃ r : EArg, cs = earV r /\ EArgOk W r := by
  obtain ⟨xs, k, _, _, hl, hxl, hg⟩ := DataW.trod_struct Tryz.underlying38 h
  rw [cellsEntry] at hl
  match cs, hl with
  | [c0, c1, c2], _ =>
    match xs, hxl with
    | [y0, y1, y2], _ =>
      have g0 := hg 0 _ rfl
      have g1 := hg 1 _ rfl
      have g2 := hg 2 _ rfl
      simp only [List.getElem_toArray, List.getElem_cons_zero, List.getElem_cons_succ] at g0 g1 g2
      rw [cellsU64] at g0
      rw [cellsInt] at g1
      rw [cellsBytesW] at g2
      simp only [List.drop_zero, List.drop_succ_cons, List.take_succ_cons, List.take_zero, List.getElem?_cons_zero, List.getElem?_cons_succ] at g0 g1 g2
      obtain ⟨z0, e0, _, w0⟩ := DataW.trod_int Tryz.underlying22 g0
      obtain rfl : c0 = .int .u64 z0 := by simpa using e0
      obtain ⟨z1, e1, _, w1⟩ := DataW.trod_int Tryz.underlying3 g1
      obtain rfl : c1 = .int .i64 z1 := by simpa using e1
      obtain ⟨ad, nd, cd, rfl, hd⟩ := open_bytes1 g2
      exact ⟨⟨z0, z1, ad, nd, cd⟩, rfl, ⟨(u64_range w0).1, (u64_range w0).2, (i64_range w1).1, (i64_range w1).2⟩, hd⟩
set_option maxRecDepth 100000 in
theorem open_eargs {fuel : Nat} {v : Value} {x : DataW H × List MemPlace} (hf : DataW.trod enc Tryz.prog W 0 (fun _ => true) true fuel 23 [v] = some x) : ∃ l, EArgsIs W v l := by
  obtain ⟨rs, h1, h2⟩ := open_rows (val := earV) (Ok := EArgOk W) Tryz.underlying23 cellsEntry (by decide) (fun n cs y h => open_earg h) hf
  exact ⟨rs, h1, h2⟩
end
theorem EArgOk.below {w w' : World} {r : EArg} (h : EArgOk w r) (hb : Below w.heap.size w w') : EArgOk w' r := ⟨h.1, fun e => let ⟨l, h1, h2⟩ := h.2 e; ⟨l, h1, h2.below hb⟩⟩
theorem EArgsIs.below {w w' : World} {v : Value} {l : List EArg} (h : EArgsIs w v l) (hb : Below w.heap.size w w') : EArgsIs w' v l := ⟨h.1.below hb, fun r hr => (h.2.1 r hr).below hb, h.2.2⟩
theorem EArgsIs.at {w : World} {a : Option Addr} {n c : Nat} {l : List EArg} (h : EArgsIs w (.slice a n c) l) {j : Nat} {r : EArg} (hj : l[j]? = some r) : ∃ b o, a = some ⟨b, o, none⟩ /\ b < w.heap.size /\ w.cell? ⟨b, o + j * 3, none⟩ = some (.int .u64 r.t) /\ w.cell? ⟨b, o + j * 3 + 1, none⟩ = some (.int .i64 r.k) /\ w.cell? ⟨b, o + j * 3 + 2, none⟩ = some (.slice r.da r.dn r.dc) := by
  obtain ⟨hl, he⟩ := List.getElem?_eq_some_iff.1 hj
  obtain ⟨b, o, h1, h2, h3⟩ := h.1.at (j := j) (by rw [List.length_map]; exact hl)
  rw [List.getElem_map, he] at h3
  exact ⟨b, o, h1, h2, by have := h3 0 _ rfl; rwa [Nat.add_zero] at this, h3 1 _ rfl, h3 2 _ rfl⟩
end Go.Proofs.YtjdglpcnkiioeaaGreat
namespace Go.Proofs.YtjdglpcnkiioeaaGreat
open Go.RowKit Go.Maps Go.Proofs.Own Go.Shelf

theorem getAtW {α : Type} {l : List α} {j : Nat} (hj : j < l.length) : ∃ x, l[j]? = some x /\ x ∈ l := ⟨l[j], List.getElem?_eq_getElem hj, List.getElem_mem hj⟩

structure VltS where
  t : Int
  v : Int
  s : SnapS
  L : WalS
  br : Bool
def VOff (vb bb lb db mb tb : Nat) (ev fv : Value) : Nat -> Prop := fun k => k ≠ vb /\ k ≠ bb /\ ¬ LOwn lb db mb tb ev fv k
structure VB where
  vb : Nat
  bb : Nat
  sb : Nat
  lb : Nat
  db : Nat
  mb : Nat
  tb : Nat
structure VaultAt (w : World) (b : VB) (ev fv : Value) (el : EntR) (D : DiskS) (V : VltS) : Prop where
  c0 : w.cell? ⟨b.vb, 0, none⟩ = some (.pointer (some ⟨b.bb, 0, none⟩))
  c1 : w.cell? ⟨b.vb, 1, none⟩ = some (.pointer (some ⟨b.sb, 0, none⟩))
  c2 : w.cell? ⟨b.vb, 2, none⟩ = some (.pointer (some ⟨b.lb, 0, none⟩))
  c3 : w.cell? ⟨b.vb, 3, none⟩ = some (.bool V.br)
  f3 : w.frozen? ⟨b.vb, 3, none⟩ = false
  n8 : NoU8 w b.vb
  book : BookIs w b.bb b.db V.t V.v
  store : StoreQ (VOff b.vb b.bb b.lb b.db b.mb b.tb ev fv) w b.sb b.db b.mb b.tb V.s
  log : LogAt w b.lb b.db b.mb b.tb ev fv el D V.L
  nv : ¬ LOwn b.lb b.db b.mb b.tb ev fv b.vb
  nb : b.bb ≠ b.vb /\ ¬ LOwn b.lb b.db b.mb b.tb ev fv b.bb
  ns : b.sb ≠ b.vb /\ b.sb ≠ b.bb /\ ¬ LOwn b.lb b.db b.mb b.tb ev fv b.sb
  sok : V.s = zeroS \/ 1 <= V.s.i
def VOwn (b : VB) (ev fv : Value) : Nat -> Prop := fun k => k = b.vb \/ k = b.bb \/ k = b.sb \/ LOwn b.lb b.db b.mb b.tb ev fv k
theorem VaultAt.lt {w : World} {b : VB} {ev fv : Value} {el : EntR} {D : DiskS} {V : VltS} (h : VaultAt w b ev fv el D V) : b.vb < w.heap.size := World.block_lt_of_cell? _ _ h.c0
theorem VaultAt.own_lt {w : World} {b : VB} {ev fv : Value} {el : EntR} {D : DiskS} {V : VltS} (h : VaultAt w b ev fv el D V) {k : Nat} (hk : VOwn b ev fv k) : k < w.heap.size := by
  rcases hk with rfl | rfl | rfl | hk
  . exact h.lt
  . exact h.book.lt
  . exact h.store.lt
  . exact h.log.own_lt hk
theorem VaultAt.below {w w' : World} {b : VB} {ev fv : Value} {el : EntR} {D : DiskS} {V : VltS} (h : VaultAt w b ev fv el D V) (hb : Below w.heap.size w w') : VaultAt w' b ev fv el D V :=
  have hl := h.lt
  ⟨Below.at hb h.c0 hl, Below.at hb h.c1 hl, Below.at hb h.c2 hl, Below.at hb h.c3 hl, (hb.frozen (p := ⟨b.vb, 3, none⟩) hl).trans h.f3, h.n8.kept (Kept.of_below hb (S := fun _ => False) fun k h1 h2 => by omega) hl id, h.book.below hb, h.store.below hb, h.log.below hb, h.nv, h.nb, h.ns, h.sok⟩
theorem VaultAt.disked {w w' : World} {b : VB} {ev fv : Value} {el : EntR} {D D' : DiskS} {V : VltS} (h : VaultAt w b ev fv el D V) (hd : DiskIs w' b.db b.mb b.tb D') (hk : Kept w w' (Own3 b.db b.mb b.tb)) : VaultAt w' b ev fv el D' V :=
  have hn : ¬ Own3 b.db b.mb b.tb b.vb := fun e => h.nv (.inr (.inl e))
  ⟨hk.cell h.c0 hn, hk.cell h.c1 hn, hk.cell h.c2 hn, hk.cell h.c3 hn, (hk.frozen (a := ⟨b.vb, 3, none⟩) h.lt hn).trans h.f3, h.n8.kept hk h.lt hn, h.book.kept hk (fun e => h.nb.2 (.inr (.inl e))), h.store.kept hk, h.log.disked hd hk, h.nv, h.nb, h.ns, h.sok⟩
def VStep (b : VB) (w : World) (ev fv : Value) (w' : World) (ev' fv' : Value) : Prop :=
  Kept w w' (VOwn b ev fv) /\ (∀ k, ev'.ownBlock = some k -> ev.ownBlock = some k \/ w.heap.size <= k) /\ (∀ k, fv'.ownBlock = some k -> fv.ownBlock = some k \/ w.heap.size <= k)
theorem VStep.of_log {b : VB} {w w' : World} {ev fv ev' fv' : Value} (h : LStep b.lb b.db b.mb b.tb w ev fv w' ev' fv') : VStep b w ev fv w' ev' fv' := ⟨h.1.mono fun _ _ e => .inr (.inr (.inr e)), h.2.1, h.2.2⟩
theorem VStep.below {b : VB} {w w' : World} {ev fv : Value} (h : Below w.heap.size w w') : VStep b w ev fv w' ev fv := ⟨Kept.of_below h fun k h1 h2 => by omega, fun _ h => .inl h, fun _ h => .inl h⟩
theorem VStep.trans {b : VB} {w w1 w2 : World} {ev fv ev1 fv1 ev2 fv2 : Value} (h : VStep b w ev fv w1 ev1 fv1) (k : VStep b w1 ev1 fv1 w2 ev2 fv2) : VStep b w ev fv w2 ev2 fv2 := by
  refine ⟨h.1.andThen k.1 fun j hj hs => ?_, fun j hj => ?_, fun j hj => ?_⟩
  . rcases hs with hs | hs | hs | hs | hs | hs | hs | hs
    . exact hs
    . exact .inl hs
    . exact .inr (.inl hs)
    . exact .inr (.inr (.inl hs))
    . exact .inr (.inr (.inr (.inl hs)))
    . exact .inr (.inr (.inr (.inr (.inl hs))))
    . rcases h.2.1 j hs with e | e
      . exact .inr (.inr (.inr (.inr (.inr (.inl e)))))
      . exact absurd hj (Nat.not_lt.2 e)
    . rcases h.2.2 j hs with e | e
      . exact .inr (.inr (.inr (.inr (.inr (.inr e)))))
      . exact absurd hj (Nat.not_lt.2 e)
  . rcases k.2.1 j hj with e | e
    . exact h.2.1 j e
    . exact .inr (Nat.le_trans h.1.size e)
  . rcases k.2.2 j hj with e | e
    . exact h.2.2 j e
    . exact .inr (Nat.le_trans h.1.size e)
theorem LStep.notOwn {lb db mb tb : Nat} {w w' : World} {ev fv ev' fv' : Value} (hs : LStep lb db mb tb w ev fv w' ev' fv') {k : Nat} (hk : k < w.heap.size) (hn : ¬ LOwn lb db mb tb ev fv k) : ¬ LOwn lb db mb tb ev' fv' k := by
  rintro (hq | hq | hq | hq)
  . exact hn (.inl hq)
  . exact hn (.inr (.inl hq))
  . rcases hs.2.1 k hq with e | e
    . exact hn (.inr (.inr (.inl e)))
    . omega
  . rcases hs.2.2 k hq with e | e
    . exact hn (.inr (.inr (.inr e)))
    . omega
theorem VaultAt.logged {w w' : World} {b : VB} {ev fv ev' fv' : Value} {el el' : EntR} {D D' : DiskS} {V : VltS} {L' : WalS} (h : VaultAt w b ev fv el D V) (hl : LogAt w' b.lb b.db b.mb b.tb ev' fv' el' D' L') (hs : LStep b.lb b.db b.mb b.tb w ev fv w' ev' fv') :
    VaultAt w' b ev' fv' el' D' { V with L := L' } := by
  have hv := h.lt
  refine ⟨hs.1.cell h.c0 h.nv, hs.1.cell h.c1 h.nv, hs.1.cell h.c2 h.nv, hs.1.cell h.c3 h.nv, (hs.1.frozen (a := ⟨b.vb, 3, none⟩) hv h.nv).trans h.f3, h.n8.kept hs.1 hv h.nv, h.book.kept hs.1 h.nb.2, ?_, hl, hs.notOwn hv h.nv, ⟨h.nb.1, hs.notOwn h.book.lt h.nb.2⟩, ⟨h.ns.1, h.ns.2.1, hs.notOwn h.store.lt h.ns.2.2⟩, h.sok⟩
  exact ((h.store.turn (T := fun k => VOff b.vb b.bb b.lb b.db b.mb b.tb ev fv k /\ VOff b.vb b.bb b.lb b.db b.mb b.tb ev' fv' k) (fun k hk hlt => ⟨hk, hk.1, hk.2.1, hs.notOwn hlt hk.2.2⟩)).keptOff hs.1 h.ns.2.2 (fun k hk => .inr fun e => e.1.2.2 hk)).turn (fun k hk _ => hk.2)
theorem LogAt.aside {w w' : World} {lb db mb tb x : Nat} {ev fv : Value} {el : EntR} {D D' : DiskS} {L : WalS} (h : LogAt w lb db mb tb ev fv el D L) (hd : DiskIs w' db mb tb D') (hk : Kept w w' (fun k => Own3 db mb tb k \/ k = x)) (hx : ¬ LOwn lb db mb tb ev fv x) (h8 : NoU8 w x) : LogAt w' lb db mb tb ev fv el D' L := by
  have hl := h.lt
  have n0 : ¬ (Own3 db mb tb lb \/ lb = x) := fun e => e.elim h.nl (fun e => hx (.inl e.symm))
  refine ⟨hd, hk.cell h.c0 n0, hk.cell h.c1 n0, hk.cell h.c2 n0, hk.cell h.c3 n0, hk.cell h.c4 n0, fun j h1 h2 => (hk.frozen (a := ⟨lb, j, none⟩) hl n0).trans (h.fz j h1 h2), (fun k hk2 j y hy => by subst hk2; exact h.n8 k rfl j y (by rw [<- World.cell?_of_block (a := ⟨k, j, none⟩) (hk.block k hl n0)]; exact hy)), h.es,
    h.er.kept hk fun b hb e => e.elim (h.ne b hb).2.1 (fun e => hx (.inr (.inr (.inl (e ▸ hb))))), h.fr.kept hk fun b hb e => e.elim (h.nf b hb).2 (fun e => hx (.inr (.inr (.inr (e ▸ hb))))), fun p hp => ?_, h.nl, h.ne, h.nf⟩
  obtain ⟨h1, h2, h3⟩ := h.dat p hp
  refine ⟨h1.keptIf hk fun hne b hb e => ?_, h2, h3⟩
  rcases e with e | e
  . exact h3 b hb e
  . obtain ⟨b', o, c, e2, _, _, hc⟩ := h1.somewhere (List.length_pos_iff.2 hne)
    rw [e2] at hb
    obtain rfl : b' = b := Option.some.inj hb
    have := hc 0 (List.length_pos_iff.2 hne)
    rw [e] at this
    exact h8 _ _ this
theorem StoreQ.noU8 {R : Nat -> Prop} {w : World} {sb db mb tb : Nat} {s : SnapS} (h : StoreQ R w sb db mb tb s) : NoU8 w sb := let ⟨_, _, h1, _⟩ := h; h1.n8
theorem VaultAt.kept2 {w w' : World} {b : VB} {ev fv : Value} {el : EntR} {D D' : DiskS} {V : VltS} {s' : SnapS} (h : VaultAt w b ev fv el D V) (hd : DiskIs w' b.db b.mb b.tb D') (hst : StoreQ (VOff b.vb b.bb b.lb b.db b.mb b.tb ev fv) w' b.sb b.db b.mb b.tb s') (hk : Kept w w' (fun k => Own3 b.db b.mb b.tb k \/ k = b.sb)) (hok : s' = zeroS \/ 1 <= s'.i) :
    VaultAt w' b ev fv el D' { V with s := s' } := by
  have hn : ¬ (Own3 b.db b.mb b.tb b.vb \/ b.vb = b.sb) := fun e => e.elim (fun e => h.nv (.inr (.inl e))) (fun e => h.ns.1 e.symm)
  have hb : ¬ (Own3 b.db b.mb b.tb b.bb \/ b.bb = b.sb) := fun e => e.elim (fun e => h.nb.2 (.inr (.inl e))) (fun e => h.ns.2.1 e.symm)
  exact ⟨hk.cell h.c0 hn, hk.cell h.c1 hn, hk.cell h.c2 hn, hk.cell h.c3 hn, (hk.frozen (a := ⟨b.vb, 3, none⟩) h.lt hn).trans h.f3, h.n8.kept hk h.lt hn, h.book.kept hk hb, hst, h.log.aside hd hk h.ns.2.2 h.store.noU8, h.nv, h.nb, h.ns, hok⟩
theorem VaultAt.setBr {w : World} {b : VB} {ev fv : Value} {el : EntR} {D : DiskS} {V : VltS} (h : VaultAt w b ev fv el D V) (x : Bool) : VaultAt (w.setCell ⟨b.vb, 3, none⟩ (.bool x)) b ev fv el D { V with br := x } := by
  have hk : Kept w (w.setCell ⟨b.vb, 3, none⟩ (.bool x)) (fun k => k = b.vb) := Kept.setCell w ⟨b.vb, 3, none⟩ _
  have hb : ¬ b.bb = b.vb := h.nb.1
  have hk' : Kept w (w.setCell ⟨b.vb, 3, none⟩ (.bool x)) (fun k => Own3 b.db b.mb b.tb k \/ k = b.vb) := hk.mono fun _ _ e => .inr e
  have hd : DiskIs (w.setCell ⟨b.vb, 3, none⟩ (.bool x)) b.db b.mb b.tb D := h.log.disk.keptN hk (fun k h1 h2 => h.nv (.inr (.inl (h2 ▸ h1)))) (fun k e j y hy => by subst e; exact h.n8 j y hy)
  exact ⟨by rw [World.cell?_setCell_other _ _ _ _ (by simp)]; exact h.c0, by rw [World.cell?_setCell_other _ _ _ _ (by simp)]; exact h.c1, by rw [World.cell?_setCell_other _ _ _ _ (by simp)]; exact h.c2, World.cell?_setCell_same _ _ _ h.c3, by rw [World.frozen?_setCell]; exact h.f3,
    h.n8.set _ h.c3 (fun y e => by cases e), h.book.kept hk hb, h.store.keptOff hk h.ns.1 (fun k e => .inr fun q => q.1 e), h.log.aside hd hk' h.nv h.n8, h.nv, h.nb, h.ns, h.sok⟩
end Go.Proofs.YtjdglpcnkiioeaaGreat
namespace Go.Proofs.YtjdglpcnkiioeaaGreat
open Go.Lib (hid)
open Go.RowKit Go.Maps Go.Proofs.Own Go.Shelf

theorem vlt_f1 (x y z : Nat) : ∀ w : World, (Instr.field 109 (.agg #[.pointer (some ⟨x, 0, none⟩), .pointer (some ⟨y, 0, none⟩), .pointer (some ⟨z, 0, none⟩)]) 1).run Tryz.prog w = .ok (.pointer (some ⟨y, 0, none⟩)) w := fun _ => by kernel_rfl
theorem vlt_f2 (x y z : Nat) : ∀ w : World, (Instr.field 109 (.agg #[.pointer (some ⟨x, 0, none⟩), .pointer (some ⟨y, 0, none⟩), .pointer (some ⟨z, 0, none⟩)]) 2).run Tryz.prog w = .ok (.pointer (some ⟨z, 0, none⟩)) w := fun _ => by kernel_rfl
set_option maxHeartbeats 2000000 in
set_option maxRecDepth 20000 in
theorem vlt_all {w : World} {b : VB} {ev fv : Value} {el : EntR} {D : DiskS} {V : VltS} (h : VaultAt w b ev fv el D V) :
    Calls Tryz.prog 106 #[.pointer (some ⟨b.vb, 0, none⟩)] w fun e w' => e = .returned (.agg #[.pointer (some ⟨b.bb, 0, none⟩), .pointer (some ⟨b.sb, 0, none⟩), .pointer (some ⟨b.lb, 0, none⟩)]) /\ Below w.heap.size w w' := by
  have c0 := h.c0
  have c1 := h.c1
  have c2 := h.c2
  have hlt := h.lt
  obtain ⟨vb, bb, sb, lb, db, mb, tb⟩ := b
  simp only at c0 c1 c2 hlt ⊢
  clear h
  go_enter Tryz.func106, Tryz.ntmps106
  go_wp2_with fail
  refine bodyPost_ret (v := .agg #[.pointer (some ⟨bb, 0, none⟩), .pointer (some ⟨sb, 0, none⟩), .pointer (some ⟨lb, 0, none⟩)]) (by simp [results, Tryz.results106, go_sem]) rfl ?_
  exact ⟨rfl, (Below.refl _ _).alloc (Nat.le_refl _) _⟩
set_option maxHeartbeats 1000000 in
theorem vlt_may {w : World} {b : VB} {ev fv : Value} {el : EntR} {D : DiskS} {V : VltS} (h : VaultAt w b ev fv el D V) :
    Calls Tryz.prog 102 #[.pointer (some ⟨b.vb, 0, none⟩)] w fun e w' => e = .returned (.int .i64 (if V.br then 50 else 0)) /\ w = w' := by
  have c0 := h.c0
  have c3 := h.c3
  obtain ⟨vb, bb, sb, lb, db, mb, tb⟩ := b
  obtain ⟨t, v, s, L, br⟩ := V
  simp only at c0 c3 ⊢
  clear h
  cases br
  . go_enter Tryz.func102, Tryz.ntmps102
    go_wp2_with fail
    go_ret
    exact ⟨rfl, rfl⟩
  . go_enter Tryz.func102, Tryz.ntmps102
    go_wp2_with fail
    go_ret
    exact ⟨rfl, rfl⟩
set_option maxHeartbeats 1000000 in
theorem vlt_told {w : World} {b : VB} {ev fv : Value} {el : EntR} {D : DiskS} {V : VltS} (h : VaultAt w b ev fv el D V) (n : Nat) :
    Calls Tryz.prog 103 #[.pointer (some ⟨b.vb, 0, none⟩), .int .i64 n] w fun e w' => e = .returned (.int .i64 n) /\ VaultAt w' b ev fv el D { V with br := V.br || decide (n = 50) } /\ Kept w w' (fun k => k = b.vb) := by
  have HH := hid h
  have c3 := h.c3
  have f3 := h.f3
  clear h
  cases hbr : V.br with
  | true =>
    rw [hbr] at c3
    clear hbr
    have FIN := hid (HH.out.setBr true)
    have K := hid (Kept.setCell w ⟨b.vb, 3, none⟩ (.bool true))
    obtain ⟨vb, bb, sb, lb, db, mb, tb⟩ := b
    simp only at c3 f3 ⊢
    go_enter Tryz.func103, Tryz.ntmps103
    go_wp2_with fail
    go_ret
    exact ⟨rfl, FIN.out, K.out⟩
  | false =>
    rw [hbr] at c3
    clear hbr
    obtain ⟨x, hx⟩ : ∃ x, decide (n = 50) = x := ⟨_, rfl⟩
    have hb : ((n : Int) == 50) = x := by rw [<- hx, Bool.eq_iff_iff, beq_iff_eq, decide_eq_true_iff]; omega
    have FIN := hid (HH.out.setBr x)
    have K := hid (Kept.setCell w ⟨b.vb, 3, none⟩ (.bool x))
    rw [hx, Bool.false_or]
    obtain ⟨vb, bb, sb, lb, db, mb, tb⟩ := b
    simp only at c3 f3 ⊢
    clear hx
    go_enter Tryz.func103, Tryz.ntmps103
    go_wp2_with fail
    go_ret
    exact ⟨rfl, FIN.out, K.out⟩
set_option maxHeartbeats 1000000 in
theorem vlt_broken {w : World} {b : VB} {ev fv : Value} {el : EntR} {D : DiskS} {V : VltS} (h : VaultAt w b ev fv el D V) :
    Calls Tryz.prog 43 #[.pointer (some ⟨b.vb, 0, none⟩)] w fun e w' => e = .returned (.bool V.br) /\ w = w' := by
  have c3 := h.c3
  obtain ⟨vb, bb, sb, lb, db, mb, tb⟩ := b
  simp only at c3 ⊢
  clear h
  go_enter Tryz.func43, Tryz.ntmps43
  go_wp2_with fail
  go_ret
  exact ⟨rfl, rfl⟩
set_option maxHeartbeats 2000000 in
set_option maxRecDepth 20000 in
theorem vlt_last {w : World} {b : VB} {ev fv : Value} {el : EntR} {D : DiskS} {V : VltS} (h : VaultAt w b ev fv el D V) (hl : (V.L.last : Int) < 18446744073709551616) :
    Calls Tryz.prog 45 #[.pointer (some ⟨b.vb, 0, none⟩)] w fun e w' => e = .returned (.int .u64 V.L.last) /\ Below w.heap.size w w' := by
  have HH := hid h
  have HLL := hid hl
  clear h hl
  obtain ⟨vb, bb, sb, lb, db, mb, tb⟩ := b
  simp only
  go_enter Tryz.func45, Tryz.ntmps45
  go_wp2_with fail
  refine (vlt_all HH.out).mono ?_
  rintro e w1 ⟨rfl, hb1⟩
  dsimp only
  have hfd := vlt_f2 bb sb lb
  have B1 := hid hb1
  clear hb1
  go_wp2_with fail
  refine (wlast (HH.out.below B1.out).log HLL.out).mono ?_
  rintro e w2 ⟨rfl, hb2⟩
  have B2 : Hid (Below w.heap.size w w2) := hid (B1.out.trans (hb2.mono B1.out.size))
  clear hb2
  go_wp2_with fail
  go_ret
  exact ⟨rfl, B2.out⟩

theorem SnapIs.slices {w : World} {i t : Int} {mv dv : Value} {s : SnapS} (h : SnapIs w (.agg #[.int .u64 i, .int .u64 t, mv, dv]) s) : i = s.i /\ t = s.t /\ (∃ a n c, mv = .slice a n c) /\ ∃ a n c, dv = .slice a n c := by
  obtain ⟨m, d, e, h1, h2⟩ := h
  simp only [Value.agg.injEq, Array.mk.injEq, List.cons.injEq, Value.int.injEq, true_and, and_true] at e
  obtain ⟨e1, e2, rfl, rfl⟩ := e
  obtain ⟨a, c, e3, _⟩ := h1.shape
  obtain ⟨a', c', e4, _⟩ := h2.shape
  exact ⟨e1, e2, ⟨_, _, _, e3⟩, ⟨_, _, _, e4⟩⟩
set_option maxHeartbeats 2000000 in
set_option maxRecDepth 20000 in
theorem vlt_get {w : World} {b : VB} {ev fv : Value} {el : EntR} {D : DiskS} {V : VltS} (h : VaultAt w b ev fv el D V) :
    Calls Tryz.prog 47 #[.pointer (some ⟨b.vb, 0, none⟩)] w (SGet V.s w) := by
  have HH := hid h
  clear h
  obtain ⟨vb, bb, sb, lb, db, mb, tb⟩ := b
  simp only
  go_enter Tryz.func47, Tryz.ntmps47
  go_wp2_with fail
  generalize hW1 : World.alloc w _ = W1
  have A1 : Hid (Below w.heap.size w W1) := hid (by subst hW1; exact (Below.refl _ _).alloc (Nat.le_refl _) _)
  have X1 : Hid (SBlk W1 w.heap.size 0 0 (.slice none 0 0) (.slice none 0 0)) := hid (by subst hW1; exact SBlk.new w)
  clear hW1
  refine (vlt_all (HH.out.below A1.out)).mono ?_
  rintro e w1 ⟨rfl, hb1⟩
  dsimp only
  have hfd := vlt_f1 bb sb lb
  have B1 : Hid (Below w.heap.size w w1) := hid (A1.out.trans (hb1.mono A1.out.size))
  have X2 := hid (X1.out.below hb1)
  clear hb1
  go_wp2_with fail
  refine (sget_all (some ⟨sb, 0, none⟩) db mb tb V.s w1 (.inr ⟨sb, rfl, (HH.out.below B1.out).store.is, HH.out.sok⟩)).mono ?_
  rintro e w2 ⟨i, t, mv, dv, rfl, hs, hb2⟩
  obtain ⟨rfl, rfl, ⟨am, nm, cm, rfl⟩, ⟨ad, nd, cd, rfl⟩⟩ := hs.slices
  have HS := hid hs
  have B2 : Hid (Below w.heap.size w w2) := hid (B1.out.trans (hb2.mono B1.out.size))
  have X3 := hid (X2.out.below hb2)
  obtain ⟨q0, q1, q2, q3, g0, g1, g2, g3⟩ := X3.out
  clear hb2 hs hfd
  go_wp2_with fail
  generalize hwF : World.setCell _ _ _ = wF
  have RF : Hid (SBlk wF w.heap.size V.s.i V.s.t (.slice am nm cm) (.slice ad nd cd)) := hid (by subst hwF; exact X3.out.set4 _ _ _ _)
  have BF : Hid (Below w.heap.size w wF) := hid (by subst hwF; exact B2.out.trans ((Kept.set4 w2 w.heap.size _ _ _ _).below B2.out.size (fun k hk => by omega)))
  have SF : Hid (SnapIs wF (.agg #[.int .u64 V.s.i, .int .u64 V.s.t, .slice am nm cm, .slice ad nd cd]) V.s) := hid (by subst hwF; exact SnapIs.set4 X3.out HS.out _ _ _ _)
  clear hwF q0 q1 q2 q3 g0 g1 g2 g3
  obtain ⟨q0, q1, q2, q3, _, _, _, _⟩ := RF.out
  refine bodyPost_ret (v := .tuple #[.agg #[.int .u64 V.s.i, .int .u64 V.s.t, .slice am nm cm, .slice ad nd cd], .bool (decide (0 < V.s.i))]) (by simp [results, Tryz.results47, go_sem, q0, q1, q2, q3]) rfl ?_
  exact ⟨_, _, _, _, rfl, SF.out, BF.out⟩
set_option maxHeartbeats 2000000 in
set_option maxRecDepth 20000 in
theorem vlt_base {w : World} {b : VB} {ev fv : Value} {el : EntR} {D : DiskS} {V : VltS} (h : VaultAt w b ev fv el D V) :
    Calls Tryz.prog 50 #[.pointer (some ⟨b.vb, 0, none⟩)] w fun e w' => e = .returned (.int .u64 V.s.i) /\ Below w.heap.size w w' := by
  have HH := hid h
  clear h
  obtain ⟨vb, bb, sb, lb, db, mb, tb⟩ := b
  simp only
  go_enter Tryz.func50, Tryz.ntmps50
  go_wp2_with fail
  refine (vlt_get HH.out).mono ?_
  rintro e w1 ⟨i, t, mv, dv, rfl, hs, hb1⟩
  obtain ⟨rfl, rfl, ⟨am, nm, cm, rfl⟩, ⟨ad, nd, cd, rfl⟩⟩ := hs.slices
  have B1 := hid hb1
  clear hb1 hs
  go_wp2_with fail
  go_ret
  exact ⟨rfl, B1.out.alloc B1.out.size _⟩
def atW (L : WalS) (index : Nat) : Option EntS := if index <= L.b then none else L.es[index - L.b - 1]?
def AtP (o : Option EntS) (w : World) : Ending -> World -> Prop := fun e w' => ∃ a n c, e = .returned (.tuple #[.agg #[.int .u64 (o.getD ⟨0, 0, []⟩).t, .int .i64 (o.getD ⟨0, 0, []⟩).k, .slice a n c], .bool o.isSome]) /\ Bytes w' (.slice a n c) (o.getD ⟨0, 0, []⟩).d /\ (∀ b, (Value.slice a n c).ownBlock = some b -> w.heap.size <= b) /\ Below w.heap.size w w'
theorem wat_any {lb db mb tb : Nat} {ev fv : Value} {el : EntR} {D : DiskS} {L : WalS} {w : World} (h : LogAt w lb db mb tb ev fv el D L) (hl : L.last <= H59) (hn : L.es.length <= 2147483648) (index : Nat) :
    Calls Tryz.prog 13 #[.pointer (some ⟨lb, 0, none⟩), .int .u64 index] w (AtP (atW L index) w) := by
  have hlast : L.last = L.b + L.es.length := rfl
  unfold atW
  by_cases hi : index <= L.b
  . rw [if_pos hi]
    refine (wat_no h hl index (.inl hi)).mono ?_
    rintro e w1 ⟨rfl, hb⟩
    exact ⟨none, 0, 0, rfl, Bytes.nil _, fun b hb => by simp [Value.ownBlock] at hb, hb⟩
  . rw [if_neg hi]
    cases hx : L.es[index - L.b - 1]? with
    | none =>
      have := List.getElem?_eq_none_iff.1 hx
      refine (wat_no h hl index (.inr (by omega))).mono ?_
      rintro e w1 ⟨rfl, hb⟩
      exact ⟨none, 0, 0, rfl, Bytes.nil _, fun b hb => by simp [Value.ownBlock] at hb, hb⟩
    | some x =>
      refine (wat_yes h hl hn index (by omega) hx).mono ?_
      rintro e w1 ⟨dv, rfl, hB, hN, hb⟩
      obtain ⟨a, c, rfl, _⟩ := hB.shape
      exact ⟨a, _, c, rfl, hB, hN, hb⟩
set_option maxHeartbeats 2000000 in
set_option maxRecDepth 20000 in
theorem vlt_at {w : World} {b : VB} {ev fv : Value} {el : EntR} {D : DiskS} {V : VltS} (h : VaultAt w b ev fv el D V) (hl : V.L.last <= H59) (hn : V.L.es.length <= 2147483648) (index : Nat) :
    Calls Tryz.prog 46 #[.pointer (some ⟨b.vb, 0, none⟩), .int .u64 index] w (AtP (atW V.L index) w) := by
  have HH := hid h
  have HLL := hid hl
  have HN := hid hn
  clear h hl hn
  obtain ⟨vb, bb, sb, lb, db, mb, tb⟩ := b
  simp only
  go_enter Tryz.func46, Tryz.ntmps46
  go_wp2_with fail
  generalize hW1 : World.alloc w _ = W1
  have A1 : Hid (Below w.heap.size w W1) := hid (by subst hW1; exact (Below.refl _ _).alloc (Nat.le_refl _) _)
  have X1 : Hid (EC W1 w.heap.size 0 0 (.slice none 0 0)) := hid (by subst hW1; exact EC.box w)
  clear hW1
  refine (vlt_all (HH.out.below A1.out)).mono ?_
  rintro e w1 ⟨rfl, hb1⟩
  dsimp only
  have hfd := vlt_f2 bb sb lb
  have B1 : Hid (Below w.heap.size w w1) := hid (A1.out.trans (hb1.mono A1.out.size))
  have X2 := hid (X1.out.below hb1)
  clear hb1
  go_wp2_with fail
  refine (wat_any (HH.out.below B1.out).log HLL.out HN.out index).mono ?_
  rintro e w2 ⟨a, n, c, rfl, hB, hN, hb2⟩
  have HB := hid hB
  have HNN : Hid (∀ b, (Value.slice a n c).ownBlock = some b -> w.heap.size < b) := hid fun b hb => Nat.lt_of_lt_of_le X2.out.lt (hN b hb)
  have B2 : Hid (Below w.heap.size w w2) := hid (B1.out.trans (hb2.mono B1.out.size))
  have X3 := hid (X2.out.below hb2)
  obtain ⟨q0, q1, q2, g0, g1, g2⟩ := X3.out
  clear hb2 hB hN hfd
  go_wp2_with fail
  have E3 := (X3.out.set ((atW V.L index).getD ⟨0, 0, []⟩).t ((atW V.L index).getD ⟨0, 0, []⟩).k).put (.slice a n c)
  have K3 := EC.kept3 w2 w.heap.size (.int .u64 ((atW V.L index).getD ⟨0, 0, []⟩).t) (.int .i64 ((atW V.L index).getD ⟨0, 0, []⟩).k) (.slice a n c)
  obtain ⟨r0, r1, r2, _, _, _⟩ := E3
  refine bodyPost_ret (v := .tuple #[.agg #[.int .u64 ((atW V.L index).getD ⟨0, 0, []⟩).t, .int .i64 ((atW V.L index).getD ⟨0, 0, []⟩).k, .slice a n c], .bool (atW V.L index).isSome]) (by simp [results, Tryz.results46, go_sem, r0, r1, r2]) rfl ?_
  exact ⟨a, n, c, rfl, HB.out.kept K3 (fun b hb e => by have := HNN.out b hb; omega), fun b hb => Nat.le_of_lt (HNN.out b hb), B2.out.trans (K3.below B2.out.size fun k e => by omega)⟩

def VltPost (b : VB) (ev fv : Value) (r : DiskS × VltS × Nat) (w : World) : Ending -> World -> Prop := fun e w' =>
  e = .returned (.int .i64 r.2.2) /\ ∃ ev' fv' el', VaultAt w' b ev' fv' el' r.1 r.2.1 /\ VStep b w ev fv w' ev' fv'
theorem VStep.told {b : VB} {w w' : World} {ev fv : Value} (h : Kept w w' (fun k => k = b.vb)) : VStep b w ev fv w' ev fv := ⟨h.mono fun _ _ e => .inl e, fun _ h => .inl h, fun _ h => .inl h⟩
theorem vlt_may_ok {w : World} {b : VB} {ev fv : Value} {el : EntR} {D : DiskS} {V : VltS} (h : VaultAt w b ev fv el D V) (hb : V.br = false) :
    Calls Tryz.prog 102 #[.pointer (some ⟨b.vb, 0, none⟩)] w fun e w' => e = .returned (.int .i64 0) /\ w = w' := by
  refine (vlt_may h).mono ?_
  rw [hb]
  exact fun e w' h => h
theorem vlt_may_no {w : World} {b : VB} {ev fv : Value} {el : EntR} {D : DiskS} {V : VltS} (h : VaultAt w b ev fv el D V) (hb : V.br = true) :
    Calls Tryz.prog 102 #[.pointer (some ⟨b.vb, 0, none⟩)] w fun e w' => e = .returned (.int .i64 50) /\ w = w' := by
  refine (vlt_may h).mono ?_
  rw [hb]
  exact fun e w' h => h
def appendV (D : DiskS) (V : VltS) (ms : List EntS) : DiskS × VltS × Nat :=
  if V.br = true then (D, V, 50)
  else if (appendW D V.L ms).2.2 ≠ 0 then ((appendW D V.L ms).1, { V with L := (appendW D V.L ms).2.1, br := decide ((appendW D V.L ms).2.2 = 50) }, (appendW D V.L ms).2.2)
  else ((syncW (appendW D V.L ms).1 (appendW D V.L ms).2.1).1, { V with L := (syncW (appendW D V.L ms).1 (appendW D V.L ms).2.1).2.1, br := decide ((syncW (appendW D V.L ms).1 (appendW D V.L ms).2.1).2.2 = 50) }, (syncW (appendW D V.L ms).1 (appendW D V.L ms).2.1).2.2)
theorem VaultAt.end {w w' w2 : World} {b : VB} {ev fv ev' fv' : Value} {el' : EntR} {D' : DiskS} {V : VltS} {L' : WalS} {n : Nat} (hb : V.br = false) (hs : VStep b w ev fv w' ev' fv')
    (ht : VaultAt w2 b ev' fv' el' D' { V with L := L', br := V.br || decide (n = 50) }) (hk : Kept w' w2 (fun k => k = b.vb)) : VltPost b ev fv (D', { V with L := L', br := decide (n = 50) }, n) w (.returned (.int .i64 n)) w2 := by
  rw [hb, Bool.false_or] at ht
  exact ⟨rfl, ev', fv', el', ht, hs.trans (VStep.told hk)⟩
set_option maxHeartbeats 2000000 in
set_option maxRecDepth 20000 in
theorem vlt_append_br {w : World} {b : VB} {ev fv : Value} {el : EntR} {D : DiskS} {V : VltS} (h : VaultAt w b ev fv el D V) (hb : V.br = true) (a : Option Addr) (n c : Nat) :
    Calls Tryz.prog 42 #[.pointer (some ⟨b.vb, 0, none⟩), .slice a n c] w fun e w' => e = .returned (.int .i64 50) /\ w = w' := by
  have HH := hid h
  have HB := hid hb
  clear h hb
  obtain ⟨vb, bb, sb, lb, db, mb, tb⟩ := b
  simp only
  go_enter Tryz.func42, Tryz.ntmps42
  go_wp2_with fail
  refine (vlt_may_no HH.out HB.out).mono ?_
  rintro e w1 ⟨rfl, rfl⟩
  dsimp only
  go_wp2_with fail
  go_ret
  exact ⟨rfl, rfl⟩
set_option maxHeartbeats 4000000 in
set_option maxRecDepth 20000 in
theorem vlt_append {w : World} {b : VB} {ev fv mv : Value} {el ml : EntR} {D : DiskS} {V : VltS} (h : VaultAt w b ev fv el D V) (hi : CutI D V.L) (hst : D.steps + 200 <= 1000000000) (hm : ArgE w (LOwn b.lb b.db b.mb b.tb ev fv) mv ml) (hf : Few ml) (hb : V.br = false) :
    Calls Tryz.prog 42 #[.pointer (some ⟨b.vb, 0, none⟩), mv] w (VltPost b ev fv (appendV D V (ml.map (·.1))) w) := by
  obtain ⟨P, hinv⟩ := hi.inv
  have hlaw := append_law hinv hi.up hi.ris (ml.map (·.1))
  have hre := (reach_append D V.L (ml.map (·.1))).good hi.good (by omega)
  have HH := hid h
  have HB := hid hb
  have HI := hid hi
  have HIN := hid hinv
  have HST : Hid (D.steps + 1 <= 1000000000) := hid (by omega)
  have HF := hid hf
  have HM := hid hm
  have c2 := h.c2
  have HR : Hid (appendV D V (ml.map (·.1)) = if (appendW D V.L (ml.map (·.1))).2.2 ≠ 0 then ((appendW D V.L (ml.map (·.1))).1, { V with L := (appendW D V.L (ml.map (·.1))).2.1, br := decide ((appendW D V.L (ml.map (·.1))).2.2 = 50) }, (appendW D V.L (ml.map (·.1))).2.2)
      else ((syncW (appendW D V.L (ml.map (·.1))).1 (appendW D V.L (ml.map (·.1))).2.1).1, { V with L := (syncW (appendW D V.L (ml.map (·.1))).1 (appendW D V.L (ml.map (·.1))).2.1).2.1, br := decide ((syncW (appendW D V.L (ml.map (·.1))).1 (appendW D V.L (ml.map (·.1))).2.1).2.2 = 50) }, (syncW (appendW D V.L (ml.map (·.1))).1 (appendW D V.L (ml.map (·.1))).2.1).2.2)) := hid (by unfold appendV; rw [if_neg (by rw [hb]; decide)])
  obtain ⟨ma, mc, rfl, _⟩ := hm.row.shape
  obtain ⟨r, hr⟩ : ∃ r, appendW D V.L (ml.map (·.1)) = r := ⟨_, rfl⟩
  have WA := hid (wappend_any h.log hinv hi.good (by omega) hm hf)
  rw [hr] at HR WA hlaw hre
  obtain ⟨D1, L1, n⟩ := r
  dsimp only at HR hlaw hre
  have c2' : ∀ w' ev' fv', LStep b.lb b.db b.mb b.tb w ev fv w' ev' fv' -> w'.cell? ⟨b.vb, 2, none⟩ = some (.pointer (some ⟨b.lb, 0, none⟩)) := fun _ _ _ hs => hs.1.cell h.c2 h.nv
  have C2 := hid c2'
  by_cases hn : n = 0
  . subst hn
    rw [if_neg (by decide)] at HR
    have hup : OpUp (D1, L1, 0) := hlaw.resolve_right fun q => by cases q.2.1
    obtain ⟨u1, u2, P1, hinv1⟩ := hup
    have HX := hid hre.1.wf
    have HOK := hid (hinv1.lok hre.1).1
    have HFW : Hid (L1.fs.length <= 1000000) := hid (by have := hinv1.few hre.1; dsimp only at this; omega)
    have HE := hid hinv1.empty
    clear h hi hst hm hf hb hinv hlaw hre hr u1 u2 c2' HI HIN HST HF HM
    dsimp only at HOK HE
    obtain ⟨vb, bb, sb, lb, db, mb, tb⟩ := b
    dsimp only at WA C2 c2 ⊢
    go_enter Tryz.func42, Tryz.ntmps42
    go_wp2_with fail
    refine (vlt_may_ok HH.out HB.out).mono ?_
    rintro e w1 ⟨rfl, rfl⟩
    dsimp only
    go_wp2_with fail
    refine WA.out.mono ?_
    rintro e w1 ⟨rfl, ev1, fv1, el1, hl1, hs1⟩
    have LS := hid hs1
    have H1 := hid (HH.out.logged hl1 hs1)
    have c21 := C2.out _ _ _ hs1
    clear hl1 hs1 c2
    dsimp only
    go_wp2_with fail
    refine (wsync H1.out.log HX.out HOK.out HFW.out HE.out).mono ?_
    rintro e w2 ⟨rfl, ev2, fv2, el2, hl2, hs2⟩
    have H2 := hid (H1.out.logged hl2 hs2)
    have VS := hid ((VStep.of_log (b := ⟨vb, bb, sb, lb, db, mb, tb⟩) LS.out).trans (VStep.of_log (b := ⟨vb, bb, sb, lb, db, mb, tb⟩) hs2))
    clear hl2 hs2 c21
    dsimp only
    go_wp2_with fail
    refine (vlt_told H2.out _).mono ?_
    rintro e w3 ⟨rfl, hv3, hk3⟩
    have FIN := hid (VaultAt.end HB.out VS.out hv3 hk3)
    clear hv3 hk3
    dsimp only
    go_wp2_with fail
    go_ret
    rw [HR.out]
    exact FIN.out
  . rw [if_pos hn] at HR
    have hx : ((n : Int) == 0) = false := beq_eq_false_iff_ne.2 (by omega)
    clear h hi hst hm hf hb hinv hlaw hre hr c2' HI HIN HST HF HM hn C2
    obtain ⟨vb, bb, sb, lb, db, mb, tb⟩ := b
    dsimp only at WA c2 ⊢
    go_enter Tryz.func42, Tryz.ntmps42
    go_wp2_with fail
    refine (vlt_may_ok HH.out HB.out).mono ?_
    rintro e w1 ⟨rfl, rfl⟩
    dsimp only
    go_wp2_with fail
    refine WA.out.mono ?_
    rintro e w1 ⟨rfl, ev1, fv1, el1, hl1, hs1⟩
    have H1 := hid (HH.out.logged hl1 hs1)
    have VS := hid (VStep.of_log (b := ⟨vb, bb, sb, lb, db, mb, tb⟩) hs1)
    clear hl1 hs1 c2
    dsimp only
    go_wp2_with fail
    refine (vlt_told H1.out n).mono ?_
    rintro e w3 ⟨rfl, hv3, hk3⟩
    have FIN := hid (VaultAt.end HB.out VS.out hv3 hk3)
    clear hv3 hk3
    dsimp only
    go_wp2_with fail
    go_ret
    rw [HR.out]
    exact FIN.out
set_option maxHeartbeats 2000000 in
set_option maxRecDepth 20000 in
theorem vlt_cut_br {w : World} {b : VB} {ev fv : Value} {el : EntR} {D : DiskS} {V : VltS} (h : VaultAt w b ev fv el D V) (hb : V.br = true) (frm : Int) :
    Calls Tryz.prog 104 #[.pointer (some ⟨b.vb, 0, none⟩), .int .u64 frm] w fun e w' => e = .returned (.int .i64 50) /\ w = w' := by
  have HH := hid h
  have HB := hid hb
  clear h hb
  obtain ⟨vb, bb, sb, lb, db, mb, tb⟩ := b
  simp only
  go_enter Tryz.func104, Tryz.ntmps104
  go_wp2_with fail
  refine (vlt_may_no HH.out HB.out).mono ?_
  rintro e w1 ⟨rfl, rfl⟩
  dsimp only
  go_wp2_with fail
  go_ret
  exact ⟨rfl, rfl⟩

set_option maxHeartbeats 2000000 in
set_option maxRecDepth 20000 in
theorem vlt_keep_br {w : World} {b : VB} {ev fv : Value} {el : EntR} {D : DiskS} {V : VltS} (h : VaultAt w b ev fv el D V) (hb : V.br = true) (t v : Int) :
    Calls Tryz.prog 105 #[.pointer (some ⟨b.vb, 0, none⟩), .agg #[.int .u64 t, .int .i64 v]] w fun e w' => e = .returned (.int .i64 50) /\ Below w.heap.size w w' := by
  have HH := hid h
  have HB := hid hb
  clear h hb
  obtain ⟨vb, bb, sb, lb, db, mb, tb⟩ := b
  simp only
  go_enter Tryz.func105, Tryz.ntmps105
  go_wp2_with fail
  generalize hW1 : World.alloc w _ = W1
  have B1 : Hid (Below w.heap.size w W1) := hid (by subst hW1; exact (Below.refl _ _).alloc (Nat.le_refl _) _)
  clear hW1
  refine (vlt_may_no (HH.out.below B1.out) HB.out).mono ?_
  rintro e w1 ⟨rfl, rfl⟩
  dsimp only
  go_wp2_with fail
  go_ret
  exact ⟨rfl, B1.out⟩

def saveV (D : DiskS) (V : VltS) (x : SnapS) : DiskS × VltS × Nat :=
  if V.br = true then (D, V, 50)
  else if (saveD D V.s x).2 ≠ 0 then ((saveD D V.s x).1, { V with br := decide ((saveD D V.s x).2 = 50) }, (saveD D V.s x).2)
  else if (atW V.L x.i.toNat).any (fun y => y.t == x.t) = true then ((dropW (saveD D V.s x).1 V.L x.i.toNat).1, { V with s := x, L := (dropW (saveD D V.s x).1 V.L x.i.toNat).2.1, br := decide ((dropW (saveD D V.s x).1 V.L x.i.toNat).2.2 = 50) }, (dropW (saveD D V.s x).1 V.L x.i.toNat).2.2)
  else ((resetW (saveD D V.s x).1 V.L x.i.toNat).1, { V with s := x, L := (resetW (saveD D V.s x).1 V.L x.i.toNat).2.1, br := decide ((resetW (saveD D V.s x).1 V.L x.i.toNat).2.2 = 50) }, (resetW (saveD D V.s x).1 V.L x.i.toNat).2.2)
theorem VStep.kept2 {b : VB} {w w' : World} {ev fv : Value} (h : Kept w w' (fun k => Own3 b.db b.mb b.tb k \/ k = b.sb)) : VStep b w ev fv w' ev fv :=
  ⟨h.mono fun _ _ e => e.elim (fun e => .inr (.inr (.inr (.inr (.inl e))))) (fun e => .inr (.inr (.inl e))), fun _ h => .inl h, fun _ h => .inl h⟩
theorem VaultAt.off {w : World} {b : VB} {ev fv : Value} {el : EntR} {D : DiskS} {V : VltS} (h : VaultAt w b ev fv el D V) {k : Nat} (hk : w.heap.size <= k) : VOff b.vb b.bb b.lb b.db b.mb b.tb ev fv k :=
  ⟨fun e => by have := h.lt; omega, fun e => by have := h.book.lt; omega, fun e => by have := h.log.own_lt e; omega⟩
theorem VaultAt.end2 {w w' w2 : World} {b : VB} {ev fv ev' fv' : Value} {el' : EntR} {D' : DiskS} {V : VltS} {s : SnapS} {L' : WalS} {n : Nat} (hb : V.br = false) (hs : VStep b w ev fv w' ev' fv')
    (ht : VaultAt w2 b ev' fv' el' D' { V with s := s, L := L', br := V.br || decide (n = 50) }) (hk : Kept w' w2 (fun k => k = b.vb)) : VltPost b ev fv (D', { V with s := s, L := L', br := decide (n = 50) }, n) w (.returned (.int .i64 n)) w2 := by
  rw [hb, Bool.false_or] at ht
  exact ⟨rfl, ev', fv', el', ht, hs.trans (VStep.told hk)⟩
theorem wat_o {lb db mb tb : Nat} {ev fv : Value} {el : EntR} {D : DiskS} {L : WalS} {w : World} (h : LogAt w lb db mb tb ev fv el D L) (hl : L.last <= H59) (hn : L.es.length <= 2147483648) (index : Nat) {o : Option EntS} (ho : atW L index = o) :
    Calls Tryz.prog 13 #[.pointer (some ⟨lb, 0, none⟩), .int .u64 index] w (AtP o w) := ho ▸ wat_any h hl hn index
set_option maxHeartbeats 2000000 in
set_option maxRecDepth 20000 in
theorem vlt_save_br {w : World} {b : VB} {ev fv : Value} {el : EntR} {D : DiskS} {V : VltS} (h : VaultAt w b ev fv el D V) (hb : V.br = true) (i t : Int) (am ad : Option Addr) (nm cm nd cd : Nat) :
    Calls Tryz.prog 81 #[.pointer (some ⟨b.vb, 0, none⟩), .agg #[.int .u64 i, .int .u64 t, .slice am nm cm, .slice ad nd cd]] w fun e w' => e = .returned (.int .i64 50) /\ Below w.heap.size w w' := by
  have HH := hid h
  have HB := hid hb
  clear h hb
  obtain ⟨vb, bb, sb, lb, db, mb, tb⟩ := b
  simp only
  go_enter Tryz.func81, Tryz.ntmps81
  go_wp2_with fail
  generalize hW1 : World.alloc w _ = W1
  have B1 : Hid (Below w.heap.size w W1) := hid (by subst hW1; exact (Below.refl _ _).alloc (Nat.le_refl _) _)
  clear hW1
  refine (vlt_may_no (HH.out.below B1.out) HB.out).mono ?_
  rintro e w1 ⟨rfl, rfl⟩
  dsimp only
  go_wp2_with fail
  go_ret
  exact ⟨rfl, B1.out⟩
set_option maxHeartbeats 8000000 in
set_option maxRecDepth 20000 in
theorem vlt_save_d {w : World} {b : VB} {ev fv : Value} {el : EntR} {D : DiskS} {V : VltS} (h : VaultAt w b ev fv el D V) (hg : DGood D) (hst : D.steps + 300 <= 1000000000) (hl : V.L.last <= H59) (hn : V.L.es.length <= 2147483648) (n : Nat) (xt : Int) (xms : List Int) (xd : List Nat) (am ad : Option Addr) (nm cm nd cd : Nat) (hn9 : (n : Int) < 18446744073709551616)
    (hxk : ∀ w', Kept w w' (VOwn b ev fv) -> SnapIs w' (.agg #[.int .u64 n, .int .u64 xt, .slice am nm cm, .slice ad nd cd]) ⟨(n : Int), xt, xms, xd⟩) (hb : V.br = false)
    (he : (saveD D V.s ⟨(n : Int), xt, xms, xd⟩).2 = 0) (hc : CutI (saveD D V.s ⟨(n : Int), xt, xms, xd⟩).1 V.L) (h1 : 1 <= (n : Int)) {y : EntS} (ho : atW V.L n = some y) (hy : y.t = xt) :
    Calls Tryz.prog 81 #[.pointer (some ⟨b.vb, 0, none⟩), .agg #[.int .u64 n, .int .u64 xt, .slice am nm cm, .slice ad nd cd]] w (VltPost b ev fv (saveV D V ⟨(n : Int), xt, xms, xd⟩) w) := by
  have HXN : Hid (¬ (Own3 b.db b.mb b.tb w.heap.size \/ w.heap.size = b.sb)) := hid fun e => e.elim (fun e => by have := h.own_lt (k := w.heap.size) (.inr (.inr (.inr (.inr (.inl e))))); omega) (fun e => by have := h.store.lt; omega)
  have HH := hid h
  have HB := hid hb
  have HG := hid hg
  have HS4 : Hid (D.steps + 4 <= 1000000000) := hid (by omega)
  have HXK := hid hxk
  have HLL := hid hl
  have HLN := hid hn
  have HN9 := hid hn9
  have hb2 : ¬ V.br = true := by rw [hb]; decide
  have hsg := saveD_good V.s (⟨(n : Int), xt, xms, xd⟩ : SnapS) hg (by omega)
  obtain ⟨P, hinv⟩ := hc.inv
  have HC := hid hc
  have HFS : Hid (V.L.fs.length <= 1000000) := hid (by have := hinv.few hsg.1; omega)
  have HSR : Hid ((saveD D V.s ⟨(n : Int), xt, xms, xd⟩).1.steps + V.L.fs.length <= 1000000000) := hid (by have := hinv.few hsg.1; omega)
  have HSD : Hid ((saveD D V.s ⟨(n : Int), xt, xms, xd⟩).1.steps + 200 <= 1000000000) := hid (by omega)
  have HOKL := hid (hinv.lok hsg.1).1
  have HOK9 : Hid ((⟨(n : Int), xt, xms, xd⟩ : SnapS) = zeroS \/ 1 <= (⟨(n : Int), xt, xms, xd⟩ : SnapS).i) := hid (.inr h1)
  have HE9 := hid he
  have HR : Hid (saveV D V ⟨(n : Int), xt, xms, xd⟩ = ((dropW (saveD D V.s ⟨(n : Int), xt, xms, xd⟩).1 V.L n).1, { V with s := ⟨(n : Int), xt, xms, xd⟩, L := (dropW (saveD D V.s ⟨(n : Int), xt, xms, xd⟩).1 V.L n).2.1, br := decide ((dropW (saveD D V.s ⟨(n : Int), xt, xms, xd⟩).1 V.L n).2.2 = 50) }, (dropW (saveD D V.s ⟨(n : Int), xt, xms, xd⟩).1 V.L n).2.2)) := hid (by unfold saveV; rw [if_neg hb2, if_neg (by rw [he]; decide), if_pos (by dsimp only; rw [Int.toNat_natCast, ho]; simp [hy])]; rfl)
  have HO9 := hid ho
  have hx : (y.t == xt) = true := beq_iff_eq.2 hy
  clear h hg hst hl hn hxk hb hb2 hn9 he hc h1 hsg hinv ho hy
  obtain ⟨vb, bb, sb, lb, db, mb, tb⟩ := b
  dsimp only at HXN HXK ⊢
  go_enter Tryz.func81, Tryz.ntmps81
  go_wp2_with fail
  generalize hW1 : World.alloc w _ = W1
  have B1 : Hid (Below w.heap.size w W1) := hid (by subst hW1; exact (Below.refl _ _).alloc (Nat.le_refl _) _)
  have X1 : Hid (SBlk W1 w.heap.size n xt (.slice am nm cm) (.slice ad nd cd)) := hid (by subst hW1; exact SBlk.box w _ _ _ _)
  have H1 := hid (HH.out.below B1.out)
  clear hW1
  refine (vlt_may_ok H1.out HB.out).mono ?_
  rintro e w1 ⟨rfl, rfl⟩
  dsimp only
  have ST := Stable.from W1
  have DR : Hid (Below W1.heap.size W1 W1.drew) := hid (Below.refl W1.heap.size W1).drew
  have BW : Hid (Below w.heap.size w W1.drew) := hid (B1.out.trans (DR.out.mono B1.out.size))
  have HD : Hid (DiskIs W1.drew db mb tb D) := hid (H1.out.below DR.out).log.disk
  have HQ9 : Hid (∀ k, W1.drew.heap.size <= k -> VOff vb bb lb db mb tb ev fv k) := hid fun k hk => (H1.out.below DR.out).off hk
  have HST9 : Hid (StoreQ (VOff vb bb lb db mb tb ev fv) W1.drew sb db mb tb V.s) := hid (H1.out.below DR.out).store
  have HX9 : Hid (SnapIs W1.drew (.agg #[.int .u64 n, .int .u64 xt, .slice am nm cm, .slice ad nd cd]) ⟨(n : Int), xt, xms, xd⟩) := hid ((HXK.out w (Kept.refl _ _)).below BW.out)
  have HXK9 : Hid (∀ w', Kept W1.drew w' (Own3 db mb tb) -> SnapIs w' (.agg #[.int .u64 n, .int .u64 xt, .slice am nm cm, .slice ad nd cd]) ⟨(n : Int), xt, xms, xd⟩) := hid fun w' hk => HXK.out w' ((Kept.of_below BW.out (S := VOwn ⟨vb, bb, sb, lb, db, mb, tb⟩ ev fv) fun k h1 h2 => by omega).trans (hk.mono fun _ _ e => .inr (.inr (.inr (.inr (.inl e))))))
  go_wp2_with fail
  refine region_start [0, 1, 3, 7, 15, 0, 63, 127] 0 (fun w' => Below W1.heap.size W1 w') (by kernel_rfl) ?_
  refine stage_heads [0, 1, 2, 3, 4, 5] (by kernel_rfl) (L := #[true, true, true, true, true, true, false, false]) (by kernel_rfl) (f' := 2) rfl (fun _ _ _ _ h => h) (fun w o h => ST.alloc h o) (.inr (by first | exact Below.refl _ _ | exact (Below.refl _ _).drew)) ?_
  simp only [sF, sL]
  iterate 6 (first | (refine heads_load _ (by rfl) (fun w' hs => by have c1 := (H1.out.below hs).c1; obtain ⟨x0, x1, x2, x3, _, _, _, _⟩ := X1.out.below hs; go_simp; try with_reducible rfl) rfl ?_; simp only [Act.put, sA]) | (refine heads_pure _ (by rfl) (fun w' => by go_simp; try with_reducible rfl) ?_; simp only [Act.put, sA]))
  refine heads_nil ?_
  refine stage_op 6 (by kernel_rfl) (L := #[true, true, true, true, true, true, true, false]) (by kernel_rfl) ?_
  simp only [sL]
  go_wp2_with fail; refine (ssave_anyQ (VOff vb bb lb db mb tb ev fv) sb db mb tb V.s ⟨(n : Int), xt, xms, xd⟩ D _ W1.drew HQ9.out HST9.out HX9.out HXK9.out HD.out HG.out HS4.out).mono ?_; rintro e w2 ⟨rfl, hd2, hs2, hk2⟩; rw [HE9.out] at hs2 ⊢; rw [if_pos rfl] at hs2; have H2 : Hid (VaultAt w2 ⟨vb, bb, sb, lb, db, mb, tb⟩ ev fv el (saveD D V.s ⟨(n : Int), xt, xms, xd⟩).1 { V with s := ⟨(n : Int), xt, xms, xd⟩ }) := hid ((H1.out.below DR.out).kept2 hd2 hs2 hk2 HOK9.out); have VS : Hid (VStep ⟨vb, bb, sb, lb, db, mb, tb⟩ w ev fv w2 ev fv) := hid ((VStep.below (B1.out.trans (DR.out.mono B1.out.size))).trans (VStep.kept2 hk2)); have X2 := hid ((X1.out.below DR.out).kept hk2 HXN.out); clear hd2 hs2 hk2; dsimp only; go_wp2_with fail
  refine step_post nofun ?_
  refine stage_heads [7] (by kernel_rfl) (L := #[true, true, true, true, true, true, true, true]) (by kernel_rfl) (f' := 0) rfl (fun _ _ _ _ h => h) (fun w o h => ST.alloc h o) (.inl (by kernel_rfl)) ?_
  simp only [sF, sL]
  iterate 1 (refine heads_pure _ (by rfl) (fun w' => by go_simp; try with_reducible rfl) ?_; simp only [Act.put, sA])
  refine heads_nil ?_
  refine stage_done (by kernel_rfl) ?_
  have ST2 := Stable.from w2
  have c2 := H2.out.c2
  dsimp only at c2
  go_wp2_with fail
  clear c2
  refine region_start [0, 1, 3, 7, 15, 0, 32, 127, 255, 511, 511, 0, 3071, 8191] 0 (fun w' => Below w2.heap.size w2 w') (by kernel_rfl) ?_
  refine stage_heads [0, 1, 2, 3, 4, 5, 6] (by kernel_rfl) (L := #[true, true, true, true, true, true, true, false, false, false, false, false, false, false]) (by kernel_rfl) (f' := 7) rfl (fun _ _ _ _ h => h) (fun w o h => ST2.alloc h o) (.inr (by first | exact Below.refl _ _ | exact (Below.refl _ _).drew)) ?_
  simp only [sF, sL]
  iterate 7 (first | (refine heads_load _ (by rfl) (fun w' hs => by have c2 := (H2.out.below hs).c2; obtain ⟨x0, x1, x2, x3, _, _, _, _⟩ := X2.out.below hs; go_simp; try with_reducible rfl) rfl ?_; simp only [Act.put, sA]) | (refine heads_pure _ (by rfl) (fun w' => by go_simp; try with_reducible rfl) ?_; simp only [Act.put, sA]))
  refine heads_nil ?_
  refine stage_two 7 11 (by kernel_rfl) (Lj := #[true, true, true, true, true, true, true, true, false, false, false, false, false, false]) (Lk := #[true, true, true, true, true, true, true, false, false, false, false, true, false, false]) (by kernel_rfl) (by kernel_rfl) ?_ ?_
  . simp only [sL]
    go_wp2_with fail
    refine (wat_o (H2.out.below ((Below.refl w2.heap.size w2).drew)).log HLL.out HLN.out n HO9.out).mono ?_
    rintro e w3 ⟨a, en, ec, rfl, _, _, hb3⟩
    have B3 : Hid (Below w2.heap.size w2 w3) := hid (((Below.refl w2.heap.size w2).drew).trans (hb3.mono ((Below.refl w2.heap.size w2).drew).size))
    clear hb3
    dsimp only [Option.getD_some, Option.getD_none, Option.isSome_some, Option.isSome_none]
    go_wp2_with fail
    refine step_post nofun ?_
    refine stage_heads [8, 9, 10] (by kernel_rfl) (L := #[true, true, true, true, true, true, true, true, true, true, true, false, false, false]) (by kernel_rfl) (f' := 3) rfl (fun _ _ _ _ h => h) (fun w o h => ST2.alloc h o) (.inl (by kernel_rfl)) ?_
    simp only [sF, sL]
    iterate 3 (refine heads_pure _ (by rfl) (fun w' => by go_simp; try with_reducible rfl) ?_; simp only [Act.put, sA])
    refine heads_nil ?_
    refine stage_op 11 (by kernel_rfl) (L := #[true, true, true, true, true, true, true, true, true, true, true, true, false, false]) (by kernel_rfl) ?_
    simp only [sL]
    go_wp2_with fail
    have E4 : Hid (EC (w3.alloc (.cells #[.int .u64 0, .int .i64 0, .slice none 0 0] 38)) w3.heap.size 0 0 (.slice none 0 0)) := hid (EC.box w3)
    have LB : Hid (w2.heap.size <= w3.heap.size) := hid B3.out.size
    have B4 : Hid (Below w2.heap.size w2 (w3.alloc (.cells #[.int .u64 0, .int .i64 0, .slice none 0 0] 38))) := hid (B3.out.alloc B3.out.size _)
    generalize World.alloc w3 _ = W4 at *
    generalize hEB : w3.heap.size = eb at *
    refine step_post nofun ?_
    refine stage_op 12 (by kernel_rfl) (L := #[true, true, true, true, true, true, true, true, true, true, true, true, true, false]) (by kernel_rfl) ?_
    simp only [sL]
    obtain ⟨q0, q1, q2, g0, g1, g2⟩ := E4.out
    go_wp2_with fail
    have E5 : Hid (EC _ _ y.t y.k (.slice a en ec)) := hid ((E4.out.set y.t y.k).put (.slice a en ec))
    have B5 : Hid (Below w2.heap.size w2 _) := hid (B4.out.trans ((EC.kept3 W4 eb (.int .u64 y.t) (.int .i64 y.k) (.slice a en ec)).below B4.out.size fun k e => by have := LB.out; omega))
    generalize World.setCell _ _ _ = W5 at *
    clear q0 q1 q2 g0 g1 g2
    refine step_post nofun ?_
    refine stage_heads [13] (by kernel_rfl) (L := #[true, true, true, true, true, true, true, true, true, true, true, true, true, true]) (by kernel_rfl) (f' := 0) rfl (fun _ _ _ _ h => h) (fun w o h => ST2.alloc h o) (.inl (by kernel_rfl)) ?_
    simp only [sF, sL]
    iterate 1 (refine heads_pure _ (by rfl) (fun w' => by go_simp; try with_reducible rfl) ?_; simp only [Act.put, sA])
    refine heads_nil ?_
    refine stage_done (by kernel_rfl) ?_
    have H5 := hid (H2.out.below B5.out)
    have VS5 : Hid (VStep ⟨vb, bb, sb, lb, db, mb, tb⟩ w ev fv W5 ev fv) := hid (VS.out.trans (VStep.below B5.out))
    have c2 := H5.out.c2
    obtain ⟨x0, x1, x2, x3, _, _, _, _⟩ := X2.out.below B5.out
    obtain ⟨q0, _, _, _, _, _⟩ := E5.out
    dsimp only at c2
    clear E4 LB B4 ST ST2
    go_wp2_with fail
    refine (wdrop H5.out.log HC.out HSD.out n HN9.out).mono ?_
    rintro e w6 ⟨rfl, ev6, fv6, el6, hl6, hs6⟩
    have H6 := hid (H5.out.logged hl6 hs6)
    have VS6 := hid (VS5.out.trans (VStep.of_log (b := ⟨vb, bb, sb, lb, db, mb, tb⟩) hs6))
    clear hl6 hs6 c2 x0 x1 x2 x3 q0
    dsimp only
    go_wp2_with fail
    refine (vlt_told H6.out _).mono ?_
    rintro e w7 ⟨rfl, hv7, hk7⟩
    have FIN := hid (VaultAt.end2 HB.out VS6.out hv7 hk7)
    clear hv7 hk7
    dsimp only
    go_wp2_with fail
    go_ret
    rw [HR.out]
    exact FIN.out
  . simp only [sL]
    go_wp2_with fail
    have E3 : Hid (EC (w2.alloc (.cells #[.int .u64 0, .int .i64 0, .slice none 0 0] 38)).drew w2.heap.size 0 0 (.slice none 0 0)) := hid ((EC.box w2).below (Below.refl _ _).drew)
    have B4 : Hid (Below w2.heap.size w2 (w2.alloc (.cells #[.int .u64 0, .int .i64 0, .slice none 0 0] 38)).drew) := hid ((Below.refl w2.heap.size w2).alloc (Nat.le_refl _) _).drew
    generalize World.alloc w2 _ = W3 at *
    refine step_post nofun ?_
    refine stage_op 7 (by kernel_rfl) (L := #[true, true, true, true, true, true, true, true, false, false, false, true, false, false]) (by kernel_rfl) ?_
    simp only [sL]
    go_wp2_with fail
    refine (wat_o (H2.out.below B4.out).log HLL.out HLN.out n HO9.out).mono ?_
    rintro e w3 ⟨a, en, ec, rfl, _, _, hb3⟩
    have B3 : Hid (Below w2.heap.size w2 w3) := hid (B4.out.trans (hb3.mono B4.out.size))
    have E4 := hid (E3.out.below hb3)
    have LB := hid (Nat.le_refl w2.heap.size)
    clear hb3
    dsimp only [Option.getD_some, Option.getD_none, Option.isSome_some, Option.isSome_none]
    go_wp2_with fail
    refine step_post nofun ?_
    refine stage_heads [8, 9, 10] (by kernel_rfl) (L := #[true, true, true, true, true, true, true, true, true, true, true, true, false, false]) (by kernel_rfl) (f' := 2) rfl (fun _ _ _ _ h => h) (fun w o h => ST2.alloc h o) (.inl (by kernel_rfl)) ?_
    simp only [sF, sL]
    iterate 3 (refine heads_pure _ (by rfl) (fun w' => by go_simp; try with_reducible rfl) ?_; simp only [Act.put, sA])
    refine heads_nil ?_
    refine stage_op 12 (by kernel_rfl) (L := #[true, true, true, true, true, true, true, true, true, true, true, true, true, false]) (by kernel_rfl) ?_
    simp only [sL]
    obtain ⟨q0, q1, q2, g0, g1, g2⟩ := E4.out
    go_wp2_with fail
    have E5 : Hid (EC _ _ y.t y.k (.slice a en ec)) := hid ((E4.out.set y.t y.k).put (.slice a en ec))
    have B5 : Hid (Below w2.heap.size w2 _) := hid (B3.out.trans ((EC.kept3 w3 w2.heap.size (.int .u64 y.t) (.int .i64 y.k) (.slice a en ec)).below B3.out.size fun k e => by omega))
    generalize World.setCell _ _ _ = W5 at *
    clear q0 q1 q2 g0 g1 g2
    refine step_post nofun ?_
    refine stage_heads [13] (by kernel_rfl) (L := #[true, true, true, true, true, true, true, true, true, true, true, true, true, true]) (by kernel_rfl) (f' := 0) rfl (fun _ _ _ _ h => h) (fun w o h => ST2.alloc h o) (.inl (by kernel_rfl)) ?_
    simp only [sF, sL]
    iterate 1 (refine heads_pure _ (by rfl) (fun w' => by go_simp; try with_reducible rfl) ?_; simp only [Act.put, sA])
    refine heads_nil ?_
    refine stage_done (by kernel_rfl) ?_
    have H5 := hid (H2.out.below B5.out)
    have VS5 : Hid (VStep ⟨vb, bb, sb, lb, db, mb, tb⟩ w ev fv W5 ev fv) := hid (VS.out.trans (VStep.below B5.out))
    have c2 := H5.out.c2
    obtain ⟨x0, x1, x2, x3, _, _, _, _⟩ := X2.out.below B5.out
    obtain ⟨q0, _, _, _, _, _⟩ := E5.out
    dsimp only at c2
    clear E4 LB B4 ST ST2
    go_wp2_with fail
    refine (wdrop H5.out.log HC.out HSD.out n HN9.out).mono ?_
    rintro e w6 ⟨rfl, ev6, fv6, el6, hl6, hs6⟩
    have H6 := hid (H5.out.logged hl6 hs6)
    have VS6 := hid (VS5.out.trans (VStep.of_log (b := ⟨vb, bb, sb, lb, db, mb, tb⟩) hs6))
    clear hl6 hs6 c2 x0 x1 x2 x3 q0
    dsimp only
    go_wp2_with fail
    refine (vlt_told H6.out _).mono ?_
    rintro e w7 ⟨rfl, hv7, hk7⟩
    have FIN := hid (VaultAt.end2 HB.out VS6.out hv7 hk7)
    clear hv7 hk7
    dsimp only
    go_wp2_with fail
    go_ret
    rw [HR.out]
    exact FIN.out

def termV (V : VltS) (n : Nat) : Int × Bool := if V.s.i = n then (V.s.t, true) else (((atW V.L n).getD ⟨0, 0, []⟩).t, (atW V.L n).isSome)
set_option maxHeartbeats 4000000 in
set_option maxRecDepth 20000 in
theorem vlt_term {w : World} {b : VB} {ev fv : Value} {el : EntR} {D : DiskS} {V : VltS} (h : VaultAt w b ev fv el D V) (hl : V.L.last <= H59) (hn : V.L.es.length <= 2147483648) (n : Nat) :
    Calls Tryz.prog 48 #[.pointer (some ⟨b.vb, 0, none⟩), .int .u64 n] w fun e w' => e = .returned (.tuple #[.int .u64 (termV V n).1, .bool (termV V n).2]) /\ Below w.heap.size w w' := by
  have HH := hid h
  have HLL := hid hl
  have HN := hid hn
  obtain ⟨m, hm⟩ : ∃ m : Int, (if V.br then (50 : Int) else 0) = m := ⟨_, rfl⟩
  have h1 : (m == 1) = false := by subst hm; cases V.br <;> rfl
  have HM := hid hm
  by_cases hc : V.s.i = n
  . have HT : Hid (termV V n = (V.s.t, true)) := hid (by unfold termV; rw [if_pos hc])
    have hx : (V.s.i == (n : Int)) = true := beq_iff_eq.2 hc
    clear h hl hn hc hm
    obtain ⟨vb, bb, sb, lb, db, mb, tb⟩ := b
    simp only
    go_enter Tryz.func48, Tryz.ntmps48
    go_wp2_with fail
    refine (vlt_may HH.out).mono ?_
    rintro e w1 ⟨rfl, rfl⟩
    rw [HM.out]
    dsimp only
    go_wp2_with fail
    refine (vlt_get HH.out).mono ?_
    rintro e w1 ⟨i, t, mv, dv, rfl, hs, hb1⟩
    obtain ⟨rfl, rfl, ⟨am, nm, cm, rfl⟩, ⟨ad, nd, cd, rfl⟩⟩ := hs.slices
    have B1 := hid hb1
    clear hb1 hs
    dsimp only
    go_wp2_with fail
    refine bodyPost_ret (v := .tuple #[.int .u64 V.s.t, .bool true]) (by simp [results, Tryz.results48, go_sem]) rfl ?_
    rw [HT.out]
    exact ⟨rfl, B1.out.alloc B1.out.size _⟩
  . have HT : Hid (termV V n = (((atW V.L n).getD ⟨0, 0, []⟩).t, (atW V.L n).isSome)) := hid (by unfold termV; rw [if_neg hc])
    have hx : (V.s.i == (n : Int)) = false := beq_eq_false_iff_ne.2 hc
    clear h hl hn hc hm
    obtain ⟨vb, bb, sb, lb, db, mb, tb⟩ := b
    simp only
    go_enter Tryz.func48, Tryz.ntmps48
    go_wp2_with fail
    refine (vlt_may HH.out).mono ?_
    rintro e w1 ⟨rfl, rfl⟩
    rw [HM.out]
    dsimp only
    go_wp2_with fail
    refine (vlt_get HH.out).mono ?_
    rintro e w1 ⟨i, t, mv, dv, rfl, hs, hb1⟩
    obtain ⟨rfl, rfl, ⟨am, nm, cm, rfl⟩, ⟨ad, nd, cd, rfl⟩⟩ := hs.slices
    have B1 := hid hb1
    clear hb1 hs
    dsimp only
    go_wp2_with fail
    generalize hW2 : World.alloc w1 _ = W2
    have B2 : Hid (Below w.heap.size w W2) := hid (by subst hW2; exact B1.out.alloc B1.out.size _)
    clear hW2
    refine (vlt_at (HH.out.below B2.out) HLL.out HN.out n).mono ?_
    rintro e w3 ⟨a, en, ec, rfl, _, _, hb3⟩
    have B3 : Hid (Below w.heap.size w w3) := hid (B2.out.trans (hb3.mono B2.out.size))
    clear hb3
    dsimp only
    go_wp2_with fail
    refine bodyPost_ret (v := .tuple #[.int .u64 ((atW V.L n).getD ⟨0, 0, []⟩).t, .bool (atW V.L n).isSome]) (by simp [results, Tryz.results48, go_sem]) rfl ?_
    rw [HT.out]
    exact ⟨rfl, B3.out.alloc B3.out.size _⟩

structure VC (w : World) (vb : Nat) (p0 p1 p2 : Option Addr) : Prop where
  c0 : w.cell? ⟨vb, 0, none⟩ = some (.pointer p0)
  c1 : w.cell? ⟨vb, 1, none⟩ = some (.pointer p1)
  c2 : w.cell? ⟨vb, 2, none⟩ = some (.pointer p2)
  c3 : w.cell? ⟨vb, 3, none⟩ = some (.bool false)
  f0 : w.frozen? ⟨vb, 0, none⟩ = false
  f1 : w.frozen? ⟨vb, 1, none⟩ = false
  f2 : w.frozen? ⟨vb, 2, none⟩ = false
  f3 : w.frozen? ⟨vb, 3, none⟩ = false
  n8 : NoU8 w vb
theorem VC.lt {w : World} {vb : Nat} {p0 p1 p2 : Option Addr} (h : VC w vb p0 p1 p2) : vb < w.heap.size := World.block_lt_of_cell? _ _ h.c0
theorem VC.kept {w w' : World} {vb : Nat} {p0 p1 p2 : Option Addr} {S : Nat -> Prop} (h : VC w vb p0 p1 p2) (hk : Kept w w' S) (hs : ¬ S vb) : VC w' vb p0 p1 p2 :=
  have hl := h.lt
  ⟨hk.cell h.c0 hs, hk.cell h.c1 hs, hk.cell h.c2 hs, hk.cell h.c3 hs, (hk.frozen (a := ⟨vb, 0, none⟩) hl hs).trans h.f0, (hk.frozen (a := ⟨vb, 1, none⟩) hl hs).trans h.f1, (hk.frozen (a := ⟨vb, 2, none⟩) hl hs).trans h.f2, (hk.frozen (a := ⟨vb, 3, none⟩) hl hs).trans h.f3, h.n8.kept hk hl hs⟩
theorem VC.below {w w' : World} {vb : Nat} {p0 p1 p2 : Option Addr} (h : VC w vb p0 p1 p2) (hb : Below w.heap.size w w') : VC w' vb p0 p1 p2 := h.kept (Kept.of_below hb (S := fun _ => False) fun k h1 h2 => by omega) id
theorem VC.new (w : World) : VC (w.alloc (.cells #[.pointer none, .pointer none, .pointer none, .bool false] 111)) w.heap.size none none none :=
  ⟨by go_cell, by go_cell, by go_cell, by go_cell, by simp, by simp, by simp, by simp, NoU8.alloc (by simp)⟩
theorem VC.set0 {w : World} {vb : Nat} {p0 p1 p2 : Option Addr} (h : VC w vb p0 p1 p2) (q : Addr) : VC (w.setCell ⟨vb, 0, none⟩ (.pointer (some q))) vb (some q) p1 p2 :=
  ⟨World.cell?_setCell_same _ _ _ h.c0, by rw [World.cell?_setCell_other _ _ _ _ (by simp)]; exact h.c1, by rw [World.cell?_setCell_other _ _ _ _ (by simp)]; exact h.c2, by rw [World.cell?_setCell_other _ _ _ _ (by simp)]; exact h.c3, by rw [World.frozen?_setCell]; exact h.f0, by rw [World.frozen?_setCell]; exact h.f1, by rw [World.frozen?_setCell]; exact h.f2, by rw [World.frozen?_setCell]; exact h.f3, h.n8.set _ h.c0 (fun y e => by cases e)⟩
theorem VC.set1 {w : World} {vb : Nat} {p0 p1 p2 : Option Addr} (h : VC w vb p0 p1 p2) (q : Addr) : VC (w.setCell ⟨vb, 1, none⟩ (.pointer (some q))) vb p0 (some q) p2 :=
  ⟨by rw [World.cell?_setCell_other _ _ _ _ (by simp)]; exact h.c0, World.cell?_setCell_same _ _ _ h.c1, by rw [World.cell?_setCell_other _ _ _ _ (by simp)]; exact h.c2, by rw [World.cell?_setCell_other _ _ _ _ (by simp)]; exact h.c3, by rw [World.frozen?_setCell]; exact h.f0, by rw [World.frozen?_setCell]; exact h.f1, by rw [World.frozen?_setCell]; exact h.f2, by rw [World.frozen?_setCell]; exact h.f3, h.n8.set _ h.c1 (fun y e => by cases e)⟩
theorem VC.set2 {w : World} {vb : Nat} {p0 p1 p2 : Option Addr} (h : VC w vb p0 p1 p2) (q : Addr) : VC (w.setCell ⟨vb, 2, none⟩ (.pointer (some q))) vb p0 p1 (some q) :=
  ⟨by rw [World.cell?_setCell_other _ _ _ _ (by simp)]; exact h.c0, by rw [World.cell?_setCell_other _ _ _ _ (by simp)]; exact h.c1, World.cell?_setCell_same _ _ _ h.c2, by rw [World.cell?_setCell_other _ _ _ _ (by simp)]; exact h.c3, by rw [World.frozen?_setCell]; exact h.f0, by rw [World.frozen?_setCell]; exact h.f1, by rw [World.frozen?_setCell]; exact h.f2, by rw [World.frozen?_setCell]; exact h.f3, h.n8.set _ h.c2 (fun y e => by cases e)⟩
theorem VaultAt.make {w : World} {vb bb sb lb db mb tb n m : Nat} {ev fv : Value} {el : EntR} {D : DiskS} {L : WalS} {s : SnapS} {t v : Int} (hv : VC w vb (some ⟨bb, 0, none⟩) (some ⟨sb, 0, none⟩) (some ⟨lb, 0, none⟩)) (hb : BookIs w bb db t v) (hs : StoreQ (fun k => n <= k /\ k < m) w sb db mb tb s) (hl : LogAt w lb db mb tb ev fv el D L)
    (h0 : ∀ k, Own3 db mb tb k -> k < vb) (h1 : vb < bb) (h2 : bb < n) (h3 : n <= sb) (h4 : sb < m) (h5 : m <= lb) (h6 : ∀ k, ev.ownBlock = some k -> m <= k) (h7 : ∀ k, fv.ownBlock = some k -> m <= k) (hok : s = zeroS \/ 1 <= s.i) : VaultAt w ⟨vb, bb, sb, lb, db, mb, tb⟩ ev fv el D ⟨t, v, s, L, false⟩ := by
  have hn : ∀ k, vb <= k -> k < m -> ¬ LOwn lb db mb tb ev fv k := fun k q1 q2 e => by
    rcases e with e | e | e | e
    . omega
    . have := h0 k e; omega
    . have := h6 k e; omega
    . have := h7 k e; omega
  exact ⟨hv.c0, hv.c1, hv.c2, hv.c3, hv.f3, hv.n8, hb, hs.turn fun k q _ => ⟨by dsimp only; omega, by dsimp only; omega, hn k (by omega) (by omega)⟩, hl, hn vb (Nat.le_refl _) (by omega), ⟨by dsimp only; omega, hn bb (by omega) (by omega)⟩, ⟨by dsimp only; omega, by dsimp only; omega, hn sb (by omega) (by omega)⟩, hok⟩
def OpenVP (db mb tb : Nat) (D : DiskS) (V : VltS) (w : World) : Ending -> World -> Prop := fun e w' => ∃ (b : VB) (ev fv : Value) (el : EntR), e = .returned (.tuple #[.pointer (some ⟨b.vb, 0, none⟩), .int .i64 0]) /\ b.db = db /\ b.mb = mb /\ b.tb = tb /\ VaultAt w' b ev fv el D V /\ Kept w w' (Own3 db mb tb) /\ ∀ k, VOwn b ev fv k -> Own3 db mb tb k \/ w.heap.size <= k
theorem wopen_ok {db mb tb : Nat} {D : DiskS} {w : World} (h : DiskIs w db mb tb D) (hg : DGood D) (hst : D.steps + 1000 <= 1000000000) (n : Nat) {D3 : DiskS} {L : WalS} (h3 : openW D n = (D3, some L, 0)) :
    Calls Tryz.prog 19 #[.pointer (some ⟨db, 0, none⟩), .int .u64 n] w fun E w' => Kept w w' (Own3 db mb tb) /\ ∃ lb ev fv el, E = .returned (.tuple #[.pointer (some ⟨lb, 0, none⟩), .int .i64 0]) /\ LogAt w' lb db mb tb ev fv el D3 L /\ w.heap.size <= lb /\ (∀ b, ev.ownBlock = some b -> w.heap.size <= b) /\ ∀ b, fv.ownBlock = some b -> w.heap.size <= b := by
  have hWO : Calls Tryz.prog 19 #[.pointer (some ⟨db, 0, none⟩), .int .u64 n] w (OpenWP db mb tb (openW D n) w) := by
    by_cases he : D.down = true \/ H59 <= n
    . exact wopen_early h n he
    . exact wopen_late h hg hst n (fun q => he (.inl q)) (fun q => he (.inr q))
  rw [h3] at hWO
  refine hWO.mono ?_
  rintro E w' ⟨_, hk, _, hs⟩
  obtain ⟨lb, ev, fv, el, e, hl, q⟩ := hs L rfl
  exact ⟨hk, lb, ev, fv, el, e, hl, q⟩
set_option maxHeartbeats 8000000 in
set_option maxRecDepth 20000 in
theorem vlt_open_n {db mb tb : Nat} {D : DiskS} {w : World} (hd : DiskIs w db mb tb D) (hg : DGood D) (hst : D.steps + 2000 <= 1000000000) {D1 D3 : DiskS} {L : WalS} {n : Nat} (h1 : vopenD D = (D1, 0)) (h2 : sopenE D1 = 0) (hn : (sopenS D1).i = n)
    (h3 : openW (goneD D1).1 n = (D3, some L, 0)) (hl : L.last <= H59) (hes : L.es.length <= 2147483648)
    (ho : atW L n = none) :
    Calls Tryz.prog 41 #[.pointer (some ⟨db, 0, none⟩)] w (OpenVP db mb tb D3 ⟨(vopenS D).t, (vopenS D).v, sopenS D1, L, false⟩ w) := by
  have hg1 := vopenD_good hg (by omega)
  rw [h1] at hg1
  dsimp only at hg1
  have hg2 := goneD_good hg1.1 (by omega)
  have HD := hid hd
  have HG := hid hg
  have HG1 := hid hg1.1
  have HG2 := hid hg2.1
  have HS : Hid (D.steps + 2 <= 1000000000) := hid (by omega)
  have HS2 : Hid ((goneD D1).1.steps + 1000 <= 1000000000) := hid (by omega)
  have HE1 := hid h1
  have HE2 := hid h2
  have HE3 := hid h3
  have HN := hid hn
  have HLL := hid hl
  have HLN := hid hes
  obtain ⟨xt, hxt⟩ : ∃ xt, (sopenS D1).t = xt := ⟨_, rfl⟩
  have HT := hid hxt
  have HV : Hid (¬ Own3 db mb tb w.heap.size) := hid fun e => by have := hd.lt3 _ e; omega
  have HO3 : Hid (∀ k, Own3 db mb tb k -> k < w.heap.size) := hid hd.lt3
  have HO9 := hid ho
  clear hd hg hst h1 h2 h3 hn hl hes hg1 hg2 hxt ho
  go_enter Tryz.func41, Tryz.ntmps41
  go_wp2_with fail
  generalize hW1 : World.alloc w _ = W1
  have B1 : Hid (Below w.heap.size w W1) := hid (by subst hW1; exact (Below.refl _ _).alloc (Nat.le_refl _) _)
  have V1 : Hid (VC W1 w.heap.size none none none) := hid (by subst hW1; exact VC.new w)
  have HD1 := hid (HD.out.below B1.out)
  have K1 : Hid (Kept w W1 (Own3 db mb tb)) := hid (Kept.of_below B1.out fun k h1 h2 => by omega)
  clear hW1
  refine (vopen_any db mb tb D W1 HD1.out HG.out HS.out).mono ?_
  rintro e w2 ⟨_, hok, hd2, hk2⟩
  rw [HE1.out] at hok hd2
  obtain ⟨bb, rfl, hbk, hbb⟩ := hok rfl
  have V2 := hid (V1.out.kept hk2 HV.out)
  have HB2 := hid hbk
  have HD2 := hid hd2
  have K2 := hid (K1.out.trans hk2)
  have HBB : Hid (w.heap.size < bb) := hid (Nat.lt_of_lt_of_le V1.out.lt hbb)
  clear hok hd2 hk2 hbk hbb HD1
  obtain ⟨v0, v1, v2, v3, f0, f1, f2, f3, _⟩ := V2.out
  dsimp only
  go_wp2_with fail
  generalize hW3 : World.setCell w2 _ _ = W3
  have KS3 : Hid (Kept w2 W3 (fun k => k = w.heap.size)) := hid (by subst hW3; exact Kept.setCell w2 ⟨w.heap.size, 0, none⟩ _)
  have V3 : Hid (VC W3 w.heap.size (some ⟨bb, 0, none⟩) none none) := hid (by subst hW3; exact V2.out.set0 _)
  have HD3 : Hid (DiskIs W3 db mb tb D1) := hid (HD2.out.keptN KS3.out (fun k h1 h2 => HV.out (h2 ▸ h1)) (fun k e j y hy => by subst e; exact V2.out.n8 j y hy))
  have HB3 : Hid (BookIs W3 bb db (vopenS D).t (vopenS D).v) := hid (HB2.out.kept KS3.out (fun e => by have := HBB.out; omega))
  have K3 := hid (K2.out.stepNew KS3.out (Nat.le_refl _))
  clear hW3 v0 v1 v2 v3 f0 f1 f2 f3 HD2 HB2 KS3 K2
  refine (sopen_anyQ (fun k => W3.heap.size <= k) db mb tb D1 W3 (fun b h => h) HD3.out HG1.out).mono ?_
  rintro e w4 ⟨_, hok, hd4, hk4⟩
  obtain ⟨sb, rfl, hst, hsb⟩ := hok HE2.out
  have V4 := hid (V3.out.kept hk4 HV.out)
  have HST4 := hid hst
  have HD4 := hid hd4
  have HB4 := hid (HB3.out.kept hk4 (fun e => by have := HO3.out _ e; have := HBB.out; omega))
  have K4 := hid (K3.out.trans hk4)
  have HSB : Hid (W3.heap.size <= sb) := hid hsb
  have SZ3 : Hid (w.heap.size < W3.heap.size /\ bb < W3.heap.size) := hid ⟨V3.out.lt, HB3.out.lt⟩
  clear hok hd4 hk4 hst hsb
  obtain ⟨v0, v1, v2, v3, f0, f1, f2, f3, _⟩ := V4.out
  dsimp only
  go_wp2_with fail
  generalize hW5 : World.setCell w4 _ _ = W5'
  have KS5 : Hid (Kept w4 W5' (fun k => k = w.heap.size)) := hid (by subst hW5; exact Kept.setCell w4 ⟨w.heap.size, 1, none⟩ _)
  have V5 : Hid (VC W5' w.heap.size (some ⟨bb, 0, none⟩) (some ⟨sb, 0, none⟩) none) := hid (by subst hW5; exact V4.out.set1 _)
  have HD5 : Hid (DiskIs W5' db mb tb (goneD D1).1) := hid (HD4.out.keptN KS5.out (fun k h1 h2 => HV.out (h2 ▸ h1)) (fun k e j y hy => by subst e; exact V4.out.n8 j y hy))
  have HB5 : Hid (BookIs W5' bb db (vopenS D).t (vopenS D).v) := hid (HB4.out.kept KS5.out (fun e => by have := HBB.out; omega))
  have HST5 : Hid (StoreQ (fun k => W3.heap.size <= k) W5' sb db mb tb (sopenS D1)) := hid (HST4.out.keptOff KS5.out (fun e => by have := HSB.out; have := SZ3.out; omega) (fun k e => .inr fun q => by have := SZ3.out; omega))
  have K5 := hid (K4.out.stepNew KS5.out (Nat.le_refl _))
  clear hW5 v0 v1 v2 v3 f0 f1 f2 f3 HD4 HB4 HST4 KS5 K4 HD3 HB3 K3
  refine (sget_all (some ⟨sb, 0, none⟩) db mb tb (sopenS D1) W5' (.inr ⟨sb, rfl, HST5.out.is, sopenS_ok D1⟩)).mono ?_
  rintro e w6 ⟨i, t, mv, dv, rfl, hs, hb6⟩
  obtain ⟨e1, e2, ⟨am, nm, cm, rfl⟩, ⟨ad, nd, cd, rfl⟩⟩ := hs.slices
  rw [HN.out] at e1
  rw [HT.out] at e2
  subst e1 e2
  have B6 := hid hb6
  clear hs hb6
  dsimp only
  go_wp2_with fail
  generalize hW7 : World.alloc w6 _ = W7
  have B7 : Hid (Below W5'.heap.size W5' W7) := hid (by subst hW7; exact B6.out.alloc B6.out.size _)
  have X7 : Hid (SBlk W7 w6.heap.size n t (.slice am nm cm) (.slice ad nd cd)) := hid (by subst hW7; exact SBlk.box w6 _ _ _ _)
  clear hW7
  have V7 := hid (V5.out.below B7.out)
  have HD7 := hid (HD5.out.below B7.out)
  have HB7 := hid (HB5.out.below B7.out)
  have HST7 : Hid (StoreQ (fun k => W3.heap.size <= k /\ k < W7.heap.size) W7 sb db mb tb (sopenS D1)) := hid ((HST5.out.below B7.out).turn fun k h1 h2 => ⟨h1, h2⟩)
  have K7 : Hid (Kept w W7 (Own3 db mb tb)) := hid (K5.out.trans (Kept.of_below B7.out fun k h1 h2 => by omega))
  have SX : Hid (w.heap.size <= w6.heap.size /\ w.heap.size < w6.heap.size) := hid (by have := B6.out.size; have := V5.out.lt; omega)
  clear V5 HD5 HB5 HST5 K5
  refine (wopen_ok HD7.out HG2.out HS2.out n HE3.out).mono ?_
  rintro e w8 ⟨hk8, lb, ev, fv, el, rfl, hl8, hlb, hev, hfv⟩
  have V8 := hid (V7.out.kept hk8 HV.out)
  have X8 := hid (X7.out.kept hk8 (fun e => by have := HO3.out _ e; have := SX.out; omega))
  have HB8 := hid (HB7.out.kept hk8 (fun e => by have := HO3.out _ e; have := HBB.out; omega))
  have HST8 := hid (HST7.out.kept hk8)
  have K8 := hid (K7.out.trans hk8)
  have HL8 := hid hl8
  have SZ7 : Hid (W3.heap.size <= W7.heap.size /\ W7.heap.size <= lb /\ sb < W7.heap.size) := hid ⟨by have := HST7.out.lt; have := HSB.out; omega, hlb, HST7.out.lt⟩
  have HEV := hid hev
  have HFV := hid hfv
  clear hk8 hl8 hlb hev hfv
  obtain ⟨v0, v1, v2, v3, f0, f1, f2, f3, _⟩ := V8.out
  dsimp only
  go_wp2_with fail
  generalize hW9 : World.setCell w8 _ _ = W9
  have KS9 : Hid (Kept w8 W9 (fun k => k = w.heap.size)) := hid (by subst hW9; exact Kept.setCell w8 ⟨w.heap.size, 2, none⟩ _)
  have V9 : Hid (VC W9 w.heap.size (some ⟨bb, 0, none⟩) (some ⟨sb, 0, none⟩) (some ⟨lb, 0, none⟩)) := hid (by subst hW9; exact V8.out.set2 _)
  have HLV : Hid (¬ LOwn lb db mb tb ev fv w.heap.size) := hid fun e => by
    have := SZ3.out; have := SZ7.out
    rcases e with e | e | e | e
    . omega
    . exact HV.out e
    . have := HEV.out _ e; omega
    . have := HFV.out _ e; omega
  have HD9 : Hid (DiskIs W9 db mb tb D3) := hid (HL8.out.disk.keptN KS9.out (fun k h1 h2 => HV.out (h2 ▸ h1)) (fun k e j y hy => by subst e; exact V8.out.n8 j y hy))
  have HL9 := hid (HL8.out.aside HD9.out (KS9.out.mono fun _ _ e => .inr e) HLV.out V8.out.n8)
  have HB9 := hid (HB8.out.kept KS9.out (fun e => by have := HBB.out; omega))
  have HST9 := hid (HST8.out.keptOff KS9.out (fun e => by have := HSB.out; have := SZ3.out; omega) (fun k e => .inr fun q => by have := SZ3.out; omega))
  have X9 := hid (X8.out.kept KS9.out (fun e => by have := SX.out; omega))
  have KK := hid (K8.out.stepNew KS9.out (Nat.le_refl _))
  have H9 : Hid (VaultAt W9 ⟨w.heap.size, bb, sb, lb, db, mb, tb⟩ ev fv el D3 ⟨(vopenS D).t, (vopenS D).v, sopenS D1, L, false⟩) := hid (VaultAt.make V9.out HB9.out HST9.out HL9.out HO3.out HBB.out SZ3.out.2 HSB.out SZ7.out.2.2 SZ7.out.2.1 HEV.out HFV.out (sopenS_ok D1))
  have OWN : Hid (∀ k, VOwn ⟨w.heap.size, bb, sb, lb, db, mb, tb⟩ ev fv k -> Own3 db mb tb k \/ w.heap.size <= k) := hid fun k h => by
    have := HBB.out; have := HSB.out; have := SZ3.out; have := SZ7.out
    rcases h with h | h | h | h | h | h | h
    . right; dsimp only at h; omega
    . right; dsimp only at h; omega
    . right; dsimp only at h; omega
    . right; dsimp only at h; omega
    . exact .inl h
    . right; have := HEV.out _ h; omega
    . right; have := HFV.out _ h; omega
  clear hW9 v0 v1 v2 v3 f0 f1 f2 f3 KS9 V9 HLV HD9 HL9 HB9 HST9 X8 V8 HB8 HST8 HL8 K8 V7 X7 HD7 HB7 HST7 K7
  have ST9 := Stable.from W9
  go_wp2_with fail
  refine region_start [0, 1, 3, 7, 15, 0, 32, 127, 255, 511, 511, 0, 3071, 8191] 0 (fun w' => Below W9.heap.size W9 w') (by kernel_rfl) ?_
  refine stage_heads [0, 1, 2, 3, 4, 5, 6] (by kernel_rfl) (L := #[true, true, true, true, true, true, true, false, false, false, false, false, false, false]) (by kernel_rfl) (f' := 7) rfl (fun _ _ _ _ h => h) (fun w o h => ST9.alloc h o) (.inr (by first | exact Below.refl _ _ | exact (Below.refl _ _).drew)) ?_
  simp only [sF, sL]
  iterate 7 (first | (refine heads_load _ (by rfl) (fun w' hs => by have c2 := (H9.out.below hs).c2; obtain ⟨x0, x1, x2, x3, _, _, _, _⟩ := X9.out.below hs; go_simp; try with_reducible rfl) rfl ?_; simp only [Act.put, sA]) | (refine heads_pure _ (by rfl) (fun w' => by go_simp; try with_reducible rfl) ?_; simp only [Act.put, sA]))
  refine heads_nil ?_
  refine stage_two 7 11 (by kernel_rfl) (Lj := #[true, true, true, true, true, true, true, true, false, false, false, false, false, false]) (Lk := #[true, true, true, true, true, true, true, false, false, false, false, true, false, false]) (by kernel_rfl) (by kernel_rfl) ?_ ?_
  . simp only [sL]
    go_wp2_with fail
    refine (wat_o (H9.out.below ((Below.refl W9.heap.size W9).drew)).log HLL.out HLN.out n HO9.out).mono ?_
    rintro e w3 ⟨a, en, ec, rfl, _, _, hb3⟩
    have B3 : Hid (Below W9.heap.size W9 w3) := hid (((Below.refl W9.heap.size W9).drew).trans (hb3.mono ((Below.refl W9.heap.size W9).drew).size))
    clear hb3
    dsimp only [Option.getD_some, Option.getD_none, Option.isSome_some, Option.isSome_none]
    go_wp2_with fail
    refine step_post nofun ?_
    refine stage_heads [8, 9, 10] (by kernel_rfl) (L := #[true, true, true, true, true, true, true, true, true, true, true, false, false, false]) (by kernel_rfl) (f' := 3) rfl (fun _ _ _ _ h => h) (fun w o h => ST9.alloc h o) (.inl (by kernel_rfl)) ?_
    simp only [sF, sL]
    iterate 3 (refine heads_pure _ (by rfl) (fun w' => by go_simp; try with_reducible rfl) ?_; simp only [Act.put, sA])
    refine heads_nil ?_
    refine stage_op 11 (by kernel_rfl) (L := #[true, true, true, true, true, true, true, true, true, true, true, true, false, false]) (by kernel_rfl) ?_
    simp only [sL]
    go_wp2_with fail
    have E4 : Hid (EC (w3.alloc (.cells #[.int .u64 0, .int .i64 0, .slice none 0 0] 38)) w3.heap.size 0 0 (.slice none 0 0)) := hid (EC.box w3)
    have LB : Hid (W9.heap.size <= w3.heap.size) := hid B3.out.size
    have B4 : Hid (Below W9.heap.size W9 (w3.alloc (.cells #[.int .u64 0, .int .i64 0, .slice none 0 0] 38))) := hid (B3.out.alloc B3.out.size _)
    generalize World.alloc w3 _ = W4 at *
    generalize hEB : w3.heap.size = eb at *
    refine step_post nofun ?_
    refine stage_op 12 (by kernel_rfl) (L := #[true, true, true, true, true, true, true, true, true, true, true, true, true, false]) (by kernel_rfl) ?_
    simp only [sL]
    obtain ⟨q0, q1, q2, g0, g1, g2⟩ := E4.out
    go_wp2_with fail
    have E5 : Hid (EC _ _ 0 0 (.slice a en ec)) := hid ((E4.out.set 0 0).put (.slice a en ec))
    have B5 : Hid (Below W9.heap.size W9 _) := hid (B4.out.trans ((EC.kept3 W4 eb (.int .u64 0) (.int .i64 0) (.slice a en ec)).below B4.out.size fun k e => by have := LB.out; omega))
    generalize World.setCell _ _ _ = W5 at *
    clear q0 q1 q2 g0 g1 g2
    refine step_post nofun ?_
    refine stage_heads [13] (by kernel_rfl) (L := #[true, true, true, true, true, true, true, true, true, true, true, true, true, true]) (by kernel_rfl) (f' := 0) rfl (fun _ _ _ _ h => h) (fun w o h => ST9.alloc h o) (.inl (by kernel_rfl)) ?_
    simp only [sF, sL]
    iterate 1 (refine heads_pure _ (by rfl) (fun w' => by go_simp; try with_reducible rfl) ?_; simp only [Act.put, sA])
    refine heads_nil ?_
    refine stage_done (by kernel_rfl) ?_
    have H5 := hid (H9.out.below B5.out)
    obtain ⟨x0, x1, x2, x3, _, _, _, _⟩ := X9.out.below B5.out
    obtain ⟨q0, _, _, _, _, _⟩ := E5.out
    have KF : Hid (Kept w W5 (Own3 db mb tb)) := hid (KK.out.andThen (Kept.of_below B5.out (S := fun _ => False) fun k h1 h2 => by omega) fun k hk h => h.elim id False.elim)
    clear E4 LB B4 ST9 HO9
    go_wp2_with fail
    refine bodyPost_ret (v := .tuple #[.pointer (some ⟨w.heap.size, 0, none⟩), .int .i64 0]) (by simp [results, Tryz.results41, go_sem]) rfl ?_
    exact ⟨⟨w.heap.size, bb, sb, lb, db, mb, tb⟩, ev, fv, el, rfl, rfl, rfl, rfl, H5.out, KF.out, OWN.out⟩
  . simp only [sL]
    go_wp2_with fail
    have E3 : Hid (EC (W9.alloc (.cells #[.int .u64 0, .int .i64 0, .slice none 0 0] 38)).drew W9.heap.size 0 0 (.slice none 0 0)) := hid ((EC.box W9).below (Below.refl _ _).drew)
    have B4 : Hid (Below W9.heap.size W9 (W9.alloc (.cells #[.int .u64 0, .int .i64 0, .slice none 0 0] 38)).drew) := hid ((Below.refl W9.heap.size W9).alloc (Nat.le_refl _) _).drew
    generalize World.alloc W9 _ = W3' at *
    refine step_post nofun ?_
    refine stage_op 7 (by kernel_rfl) (L := #[true, true, true, true, true, true, true, true, false, false, false, true, false, false]) (by kernel_rfl) ?_
    simp only [sL]
    go_wp2_with fail
    refine (wat_o (H9.out.below B4.out).log HLL.out HLN.out n HO9.out).mono ?_
    rintro e w3 ⟨a, en, ec, rfl, _, _, hb3⟩
    have B3 : Hid (Below W9.heap.size W9 w3) := hid (B4.out.trans (hb3.mono B4.out.size))
    have E4 := hid (E3.out.below hb3)
    have LB := hid (Nat.le_refl W9.heap.size)
    clear hb3
    dsimp only [Option.getD_some, Option.getD_none, Option.isSome_some, Option.isSome_none]
    go_wp2_with fail
    refine step_post nofun ?_
    refine stage_heads [8, 9, 10] (by kernel_rfl) (L := #[true, true, true, true, true, true, true, true, true, true, true, true, false, false]) (by kernel_rfl) (f' := 2) rfl (fun _ _ _ _ h => h) (fun w o h => ST9.alloc h o) (.inl (by kernel_rfl)) ?_
    simp only [sF, sL]
    iterate 3 (refine heads_pure _ (by rfl) (fun w' => by go_simp; try with_reducible rfl) ?_; simp only [Act.put, sA])
    refine heads_nil ?_
    refine stage_op 12 (by kernel_rfl) (L := #[true, true, true, true, true, true, true, true, true, true, true, true, true, false]) (by kernel_rfl) ?_
    simp only [sL]
    obtain ⟨q0, q1, q2, g0, g1, g2⟩ := E4.out
    go_wp2_with fail
    have E5 : Hid (EC _ _ 0 0 (.slice a en ec)) := hid ((E4.out.set 0 0).put (.slice a en ec))
    have B5 : Hid (Below W9.heap.size W9 _) := hid (B3.out.trans ((EC.kept3 w3 W9.heap.size (.int .u64 0) (.int .i64 0) (.slice a en ec)).below B3.out.size fun k e => by omega))
    generalize World.setCell _ _ _ = W5 at *
    clear q0 q1 q2 g0 g1 g2
    refine step_post nofun ?_
    refine stage_heads [13] (by kernel_rfl) (L := #[true, true, true, true, true, true, true, true, true, true, true, true, true, true]) (by kernel_rfl) (f' := 0) rfl (fun _ _ _ _ h => h) (fun w o h => ST9.alloc h o) (.inl (by kernel_rfl)) ?_
    simp only [sF, sL]
    iterate 1 (refine heads_pure _ (by rfl) (fun w' => by go_simp; try with_reducible rfl) ?_; simp only [Act.put, sA])
    refine heads_nil ?_
    refine stage_done (by kernel_rfl) ?_
    have H5 := hid (H9.out.below B5.out)
    obtain ⟨x0, x1, x2, x3, _, _, _, _⟩ := X9.out.below B5.out
    obtain ⟨q0, _, _, _, _, _⟩ := E5.out
    have KF : Hid (Kept w W5 (Own3 db mb tb)) := hid (KK.out.andThen (Kept.of_below B5.out (S := fun _ => False) fun k h1 h2 => by omega) fun k hk h => h.elim id False.elim)
    clear E4 LB B4 ST9 HO9
    go_wp2_with fail
    refine bodyPost_ret (v := .tuple #[.pointer (some ⟨w.heap.size, 0, none⟩), .int .i64 0]) (by simp [results, Tryz.results41, go_sem]) rfl ?_
    exact ⟨⟨w.heap.size, bb, sb, lb, db, mb, tb⟩, ev, fv, el, rfl, rfl, rfl, rfl, H5.out, KF.out, OWN.out⟩
end Go.Proofs.YtjdglpcnkiioeaaGreat
namespace Go.Proofs.YtjdglpcnkiioeaaGreat
open Go.RowKit Go.Maps Go.Proofs.Own Go.Shelf

theorem WInv.sameL {D D' : DiskS} {L : WalS} {P : List Pc} (h : WInv D L P) (e : logF D' = logF D) : WInv D' L P :=
  ⟨by rw [e]; exact h.fil, h.fs, h.es, h.ch, h.ok, h.hi, h.full, h.safe, h.kept, h.lo⟩
theorem OpUp.cut {r : DiskS × WalS × Nat} (h : OpUp r) (hg : DGood r.1) : CutI r.1 r.2.1 := ⟨h.2.2, h.1, h.2.1, hg⟩
theorem appendV_cut {D : DiskS} {V : VltS} {ms : List EntS} (hc : CutI D V.L) (hb : V.br = false) (hs : D.steps + 3 <= 1000000000) (hd : (appendV D V ms).1.down = false) :
    CutI (appendV D V ms).1 (appendV D V ms).2.1.L /\ (appendV D V ms).1.steps <= D.steps + 3 := by
  obtain ⟨P, hi⟩ := hc.inv
  have hg := (reach_append D V.L ms).good hc.good (by omega)
  have hl := append_law hi hc.up hc.ris ms
  unfold appendV at hd ⊢
  rw [if_neg (by rw [hb]; decide)] at hd ⊢
  by_cases he : (appendW D V.L ms).2.2 ≠ 0
  . rw [if_pos he] at hd ⊢
    rcases hl with h | h
    . exact ⟨h.cut hg.1, by have := hg.2; show (appendW D V.L ms).1.steps <= _; omega⟩
    . have h1 : (appendW D V.L ms).1.down = false := hd
      rw [h.1] at h1
      cases h1
  . rw [if_neg he] at hd ⊢
    have hup : OpUp (appendW D V.L ms) := hl.resolve_right fun h => he (by rw [h.2.1]; decide)
    obtain ⟨u1, u2, P1, u3⟩ := hup
    have hg2 := (reach_sync (appendW D V.L ms).1 (appendW D V.L ms).2.1).good hg.1 (by have := hg.2; omega)
    rcases sync_up u3 u1 u2 with h | h
    . exact ⟨h.cut hg2.1, by have := hg.2; have := hg2.2; show (syncW _ _).1.steps <= _; omega⟩
    . have h1 : (syncW (appendW D V.L ms).1 (appendW D V.L ms).2.1).1.down = false := hd
      rw [h.1] at h1
      cases h1
theorem x_cut : CutI dX lX := ⟨⟨_, x_inv⟩, rfl, x_rise, x_good⟩
def vX : VltS := ⟨0, -1, zeroS, lX, false⟩
def rY1 : DiskS × VltS × Nat := appendV dX vX [xE, xE, xE]
def rY2 : DiskS × VltS × Nat := saveV rY1.1 rY1.2.1 (plainS 2)
set_option maxRecDepth 100000 in
theorem y_open : vopenD dX = (dX, 0) /\ sopenE dX = 0 /\ (sopenS dX).i = (0 : Nat) /\ (goneD dX).1 = dX := by
  refine ⟨by kernel_rfl, by kernel_rfl, by kernel_rfl, by kernel_rfl⟩
set_option maxRecDepth 100000 in
theorem y_st : (⟨(vopenS dX).t, (vopenS dX).v, sopenS dX, lX, false⟩ : VltS) = vX := by kernel_rfl
set_option maxRecDepth 100000 in
theorem y1 : rY1.2.2 = 0 /\ rY1.2.1.br = false /\ rY1.1.down = false /\ rY1.2.1.L.last = 3 /\ rY1.2.1.L.es.length = 3 /\ rY1.2.1.L.b = 0 := by decide +kernel
set_option maxRecDepth 100000 in
theorem y1a : atW rY1.2.1.L 2 = some xE := by kernel_rfl
set_option maxRecDepth 100000 in
theorem y_save : (saveD rY1.1 rY1.2.1.s (plainS 2)).2 = 0 /\ (saveD rY1.1 rY1.2.1.s (plainS 2)).1.down = false := by decide +kernel
set_option maxRecDepth 100000 in
theorem y_log : logF (saveD rY1.1 rY1.2.1.s (plainS 2)).1 = logF rY1.1 := by kernel_rfl
set_option maxRecDepth 100000 in
theorem y2 : rY2.2.2 = 0 /\ rY2.2.1.br = false /\ rY2.2.1.L.last = 3 /\ rY2.2.1.L.es.length = 3 := by decide +kernel
set_option maxRecDepth 100000 in
theorem y2s : rY2.2.1.s = plainS 2 /\ termV rY2.2.1 2 = (1, true) := ⟨by kernel_rfl, by kernel_rfl⟩
theorem y1c : CutI rY1.1 rY1.2.1.L /\ rY1.1.steps <= 3 := appendV_cut (V := vX) (ms := [xE, xE, xE]) x_cut rfl (by decide) y1.2.2.1
def dB : DiskS := ⟨2000, [], false, -1, 0⟩
def rB1 : DiskS × VltS × Nat := appendV dB vX [xE]
def dB2 : DiskS := (armD rB1.1 0).1
def rB3 : DiskS × VltS × Nat := appendV dB2 rB1.2.1 [xE]
def dB4 : DiskS := bootD (crashD rB3.1 [])
def rB5 : DiskS × Option WalS × Nat := openW dB4 0
set_option maxRecDepth 100000 in
theorem b_open : vopenD dB = (dB, 0) /\ sopenE dB = 0 /\ (sopenS dB).i = (0 : Nat) /\ openW (goneD dB).1 0 = (dB, some lX, 0) := by
  refine ⟨by kernel_rfl, by kernel_rfl, by kernel_rfl, by kernel_rfl⟩
set_option maxRecDepth 100000 in
theorem b_st : (⟨(vopenS dB).t, (vopenS dB).v, sopenS dB, lX, false⟩ : VltS) = vX := by kernel_rfl
theorem b_good : DGood dB := ⟨⟨by decide, by decide, by decide, by decide, by decide, by decide, by decide, fun f h => by cases h⟩, by decide, by decide⟩
theorem b_inv : WInv dB lX [] := (open_none (D := dB) (b := 0) ⟨rfl, rfl⟩ (by decide) rfl).2
theorem b_cut : CutI dB lX := ⟨⟨_, b_inv⟩, rfl, List.Pairwise.nil, b_good⟩
set_option maxRecDepth 100000 in
theorem b1 : rB1.2.2 = 0 /\ rB1.2.1.br = false /\ rB1.1.down = false /\ rB1.2.1.L.b = 0 := by decide +kernel
theorem b1c : CutI rB1.1 rB1.2.1.L /\ rB1.1.steps <= 3 := appendV_cut (V := vX) (ms := [xE]) b_cut rfl (by decide) b1.2.2.1
set_option maxRecDepth 100000 in
theorem b2 : (armD rB1.1 0).2 = 0 /\ dB2.down = false /\ dB2.armed = 0 := by decide +kernel
theorem b2f : dB2 = { rB1.1 with armed := 0 } := by
  unfold dB2 armD
  rw [if_neg (by rw [b1.2.2.1]; decide), if_neg (by decide)]
theorem b2c : CutI dB2 rB1.2.1.L /\ dB2.steps <= 3 := by
  obtain ⟨⟨⟨P, hi⟩, h2, h3, h4⟩, h5⟩ := b1c
  refine ⟨⟨⟨P, hi.sameL (by rw [b2f]; rfl)⟩, b2.2.1, by rw [b2f]; exact h3, h4.arm 0 (by decide)⟩, by rw [b2f]; exact h5⟩
set_option maxRecDepth 100000 in
theorem b3 : rB3.2.2 = 50 /\ rB3.2.1.br = true /\ rB3.1.down = true /\ rB3.2.1.L.b = 0 := by decide +kernel
set_option maxRecDepth 100000 in
theorem b3e : (appendW dB2 rB1.2.1.L [xE]).2.2 = 50 /\ (appendW dB2 rB1.2.1.L [xE]).1.down = true := by decide +kernel
theorem b3r : rB3.1 = (appendW dB2 rB1.2.1.L [xE]).1 /\ rB3.2.1.L = (appendW dB2 rB1.2.1.L [xE]).2.1 := by
  have h : appendV dB2 rB1.2.1 [xE] = ((appendW dB2 rB1.2.1.L [xE]).1, { rB1.2.1 with L := (appendW dB2 rB1.2.1.L [xE]).2.1, br := decide ((appendW dB2 rB1.2.1.L [xE]).2.2 = 50) }, (appendW dB2 rB1.2.1.L [xE]).2.2) := by
    unfold appendV
    rw [if_neg (by rw [b1.2.1]; decide), if_pos (by rw [b3e.1]; decide)]
  unfold rB3
  rw [h]
  exact ⟨rfl, rfl⟩
theorem b3g : DGood rB3.1 /\ rB3.1.steps <= 5 /\ Rising rB3.1.files := by
  have hre := reach_append dB2 rB1.2.1.L [xE]
  have hg := hre.good b2c.1.good (by have := b2c.2; omega)
  rw [b3r.1]
  exact ⟨hg.1, by have := hg.2; have := b2c.2; omega, hre.rising b2c.1.ris⟩
theorem b4g : DGood dB4 /\ dB4.steps <= 5 := ⟨(b3g.1.crash []).boot, b3g.2.1⟩
set_option maxRecDepth 100000 in
theorem b4 : vopenD dB4 = (dB4, 0) /\ sopenE dB4 = 0 /\ (sopenS dB4).i = (0 : Nat) /\ (goneD dB4).1 = dB4 := by
  refine ⟨by kernel_rfl, by kernel_rfl, by kernel_rfl, by kernel_rfl⟩
theorem b5 : ∃ D5 L5, openW dB4 0 = (D5, some L5, 0) /\ CutI D5 L5 /\ L5.b = 0 /\ D5.steps + 1000 <= 1000000000 := by
  obtain ⟨P, hi⟩ := b2c.1.inv
  have hdn : OpDn [xE] (appendW dB2 rB1.2.1.L [xE]) := (append_law hi b2c.1.up b2c.1.ris [xE]).resolve_left fun h => by
    have := h.1
    rw [b3e.2] at this
    cases this
  have hrs : Rising (appendW dB2 rB1.2.1.L [xE]).1.files := b3r.1 ▸ b3g.2.2
  obtain ⟨D5, L5, P5, h1, h2, h3, h4, h5, _⟩ := keeps_dn hdn hrs []
  rw [<- b3r.1, <- b3r.2, b3.2.2.2] at h1
  rw [<- b3r.2, b3.2.2.2] at h5
  have h1' : openW dB4 0 = (D5, some L5, 0) := h1
  have hre := reach_open dB4 0
  rw [h1'] at hre
  have hg := hre.good b4g.1 (by have := names_few b4g.1; have := b4g.2; omega)
  exact ⟨D5, L5, h1', ⟨⟨P5, h4⟩, h2.1, h3, hg.1⟩, h5, by have h9 : D5.steps <= dB4.steps + (2 * (namesW dB4).length + 2) := hg.2; have := names_few b4g.1; have := b4g.2; omega⟩
set_option maxRecDepth 100000 in
theorem b5n : (rB5.2.1.map (fun L => ((appendV rB5.1 ⟨0, -1, zeroS, L, false⟩ [xE]).2.2, (appendV rB5.1 ⟨0, -1, zeroS, L, false⟩ [xE]).2.1.L.last))) = some (0, 2) := by decide +kernel
set_option maxRecDepth 100000 in
theorem b4s (L : WalS) : (⟨(vopenS dB4).t, (vopenS dB4).v, sopenS dB4, L, false⟩ : VltS) = ⟨0, -1, zeroS, L, false⟩ := by kernel_rfl
end Go.Proofs.YtjdglpcnkiioeaaGreat
namespace Go.Proofs.YtjdglpcnkiioeaaGreat
open Go.Lib (hid)
open Go.RowKit Go.Maps Go.Proofs.Own Go.Shelf

def yV : EntS × Value := (xE, .slice none 0 0)
theorem VStep.own {b : VB} {w w' : World} {ev fv ev' fv' : Value} (h : VStep b w ev fv w' ev' fv') {k : Nat} (hk : VOwn b ev' fv' k) : VOwn b ev fv k \/ w.heap.size <= k := by
  rcases hk with hk | hk | hk | hk | hk | hk | hk
  . exact .inl (.inl hk)
  . exact .inl (.inr (.inl hk))
  . exact .inl (.inr (.inr (.inl hk)))
  . exact .inl (.inr (.inr (.inr (.inl hk))))
  . exact .inl (.inr (.inr (.inr (.inr (.inl hk)))))
  . exact (h.2.1 k hk).imp (fun e => .inr (.inr (.inr (.inr (.inr (.inl e)))))) id
  . exact (h.2.2 k hk).imp (fun e => .inr (.inr (.inr (.inr (.inr (.inr e)))))) id
structure TX (w0 cw : World) (b : VB) (xb : Nat) (D : DiskS) (V : VltS) : Prop where
  vlt : ∃ ev fv el, VaultAt cw b ev fv el D V /\ (∀ k, VOwn b ev fv k -> w0.heap.size <= k) /\ ¬ VOwn b ev fv xb
  box : EC cw xb 1 1 (.slice none 0 0)
  bel : Below w0.heap.size w0 cw
theorem TX.below {w0 cw cw' : World} {b : VB} {xb : Nat} {D : DiskS} {V : VltS} (h : TX w0 cw b xb D V) (hb : Below cw.heap.size cw cw') : TX w0 cw' b xb D V := by
  obtain ⟨ev, fv, el, h1, h2⟩ := h.vlt
  exact ⟨⟨ev, fv, el, h1.below hb, h2⟩, h.box.below hb, h.bel.trans (hb.mono h.bel.size)⟩
theorem TX.step {w0 cw cw' : World} {b : VB} {xb : Nat} {D D' : DiskS} {V V' : VltS} {ev fv ev' fv' : Value} {el' : EntR} (h : TX w0 cw b xb D V) (hlog : (∀ k, VOwn b ev fv k -> w0.heap.size <= k) /\ ¬ VOwn b ev fv xb) (hv : VaultAt cw' b ev' fv' el' D' V') (hs : VStep b cw ev fv cw' ev' fv') : TX w0 cw' b xb D' V' := by
  refine ⟨⟨ev', fv', el', hv, fun k hk => ?_, fun hk => ?_⟩, h.box.kept hs.1 hlog.2, h.bel.trans (hs.1.below h.bel.size fun k hk => hlog.1 k hk)⟩
  . rcases hs.own hk with e | e
    . exact hlog.1 k e
    . have := h.bel.size; omega
  . rcases hs.own hk with e | e
    . exact hlog.2 e
    . have := h.box.lt; omega
theorem TX.disked {w0 cw cw' : World} {b : VB} {xb : Nat} {D D' : DiskS} {V : VltS} (h : TX w0 cw b xb D V) (hd : DiskIs cw' b.db b.mb b.tb D') (hk : Kept cw cw' (Own3 b.db b.mb b.tb)) : TX w0 cw' b xb D' V := by
  obtain ⟨ev, fv, el, h1, h2, h3⟩ := h.vlt
  have ho : ∀ k, Own3 b.db b.mb b.tb k -> VOwn b ev fv k := fun k e => .inr (.inr (.inr (.inr (.inl e))))
  exact ⟨⟨ev, fv, el, h1.disked hd hk, h2, h3⟩, h.box.kept hk (fun e => h3 (ho _ e)), h.bel.trans (hk.below h.bel.size fun k e => h2 k (ho k e))⟩
theorem TX.disk {w0 cw : World} {b : VB} {xb : Nat} {D : DiskS} {V : VltS} (h : TX w0 cw b xb D V) : DiskIs cw b.db b.mb b.tb D := let ⟨_, _, _, h1, _⟩ := h.vlt; h1.log.disk
theorem map_y (n : Nat) : (List.replicate n yV).map (·.1) = List.replicate n xE := by rw [List.map_replicate]; rfl
theorem tx_append {w0 cw : World} {b : VB} {xb n : Nat} {D : DiskS} {V : VltS} (h : TX w0 cw b xb D V) {o : Obj} (hs : SRow (cw.alloc o) 3 (.slice (some ⟨cw.heap.size, 0, none⟩) n n) (entRows (List.replicate n yV))) (hn : n <= 100) (hc : CutI D V.L) (hst : D.steps + 200 <= 1000000000) (hb : V.br = false) :
    Calls Tryz.prog 42 #[.pointer (some ⟨b.vb, 0, none⟩), .slice (some ⟨cw.heap.size, 0, none⟩) n n] (cw.alloc o) fun e w' => e = .returned (.int .i64 (appendV D V (List.replicate n xE)).2.2) /\ TX w0 w' b xb (appendV D V (List.replicate n xE)).1 (appendV D V (List.replicate n xE)).2.1 := by
  have hbel : Below cw.heap.size cw (cw.alloc o) := (Below.refl _ _).alloc (Nat.le_refl _) _
  have h' := h.below hbel
  obtain ⟨ev, fv, el, h1, h2, h3⟩ := h.vlt
  have hf : Few (List.replicate n yV) := ⟨by rw [List.length_replicate]; exact hn, fun p hp => by
    obtain ⟨_, rfl⟩ := List.mem_replicate.1 hp
    exact ⟨by decide, by decide, by decide⟩⟩
  have hda : Datas (cw.alloc o) (LOwn b.lb b.db b.mb b.tb ev fv) (List.replicate n yV) := fun p hp => by
    obtain ⟨_, rfl⟩ := List.mem_replicate.1 hp
    exact ⟨Bytes.nil _, ⟨by decide, by decide, by decide, by decide⟩, nofun⟩
  have hm : ArgE (cw.alloc o) (LOwn b.lb b.db b.mb b.tb ev fv) (.slice (some ⟨cw.heap.size, 0, none⟩) n n) (List.replicate n yV) := ⟨hs, hda.toN, .inr fun k hk e => by
    obtain rfl : cw.heap.size = k := Option.some.inj hk
    have := h1.log.own_lt e
    omega⟩
  refine (vlt_append (h1.below hbel) hc hst hm hf hb).mono ?_
  rintro E w' ⟨rfl, ev', fv', el', h5, h6⟩
  rw [map_y] at h5 ⊢
  exact ⟨rfl, h'.step ⟨h2, h3⟩ h5 h6⟩
theorem tx_save {w0 cw cw' : World} {b : VB} {xb : Nat} {D : DiskS} {V : VltS} {v : Value} (h : TX w0 cw b xb D V) (hbel : Below cw.heap.size cw cw') (hv : SnapOff cw' cw.heap.size v (plainS 2)) (hg : DGood D) (hst : D.steps + 300 <= 1000000000) (hl : V.L.last <= H59) (hn : V.L.es.length <= 2147483648) (hb : V.br = false)
    (he : (saveD D V.s (plainS 2)).2 = 0) (hc : CutI (saveD D V.s (plainS 2)).1 V.L) (ho : atW V.L 2 = some xE) :
    Calls Tryz.prog 81 #[.pointer (some ⟨b.vb, 0, none⟩), v] cw' fun e w' => e = .returned (.int .i64 (saveV D V (plainS 2)).2.2) /\ TX w0 w' b xb (saveV D V (plainS 2)).1 (saveV D V (plainS 2)).2.1 := by
  have h' := h.below hbel
  obtain ⟨ev, fv, el, h1, h2, h3⟩ := h.vlt
  obtain ⟨mv, dv, rfl, hm, hd, q1, q2⟩ := hv
  obtain ⟨am, cm, rfl, _⟩ := hm.shape
  obtain ⟨ad, cd, rfl, _⟩ := hd.shape
  have WP := vlt_save_d (h1.below hbel) hg hst hl hn 2 1 [0] [97] am ad ([0] : List Int).length cm ([97] : List Nat).length cd (by decide)
    (fun w' hk => ⟨_, _, rfl, hm.kept hk (fun k hk e => by have := q1 k hk; have := h1.own_lt e; omega), hd.kept hk (fun k hk e => by have := q2 k hk; have := h1.own_lt e; omega)⟩) hb he hc (by decide) ho rfl
  refine WP.mono ?_
  rintro E w' ⟨rfl, ev', fv', el', h5, h6⟩
  exact ⟨rfl, h'.step ⟨h2, h3⟩ h5 h6⟩
theorem y_row1 (w : World) : SRow (w.alloc (.cells #[.int .u64 1, .int .i64 1, .slice none 0 0] 38)) 3 (.slice (some ⟨w.heap.size, 0, none⟩) 1 1) (entRows (List.replicate 1 yV)) := by
  refine ⟨_, _, rfl, Nat.le_refl _, fun j hj => ?_⟩
  obtain rfl : j = 0 := by have : j < 1 := hj; omega
  refine ⟨w.heap.size, 0, rfl, by simp, fun i u hu => ?_⟩
  have hu' : [Value.int .u64 1, .int .i64 1, .slice none 0 0][i]? = some u := hu
  match i, hu' with
  | 0, hu' => obtain rfl : Value.int .u64 1 = u := by simpa using hu'
              go_cell
  | 1, hu' => obtain rfl : Value.int .i64 1 = u := by simpa using hu'
              go_cell
  | 2, hu' => obtain rfl : Value.slice none 0 0 = u := by simpa using hu'
              go_cell
  | i + 3, hu' => simp at hu'
theorem y_row3 (w : World) : SRow (w.alloc (.cells #[.int .u64 1, .int .i64 1, .slice none 0 0, .int .u64 1, .int .i64 1, .slice none 0 0, .int .u64 1, .int .i64 1, .slice none 0 0] 38)) 3 (.slice (some ⟨w.heap.size, 0, none⟩) 3 3) (entRows (List.replicate 3 yV)) := by
  refine ⟨_, _, rfl, Nat.le_refl _, fun j hj => ?_⟩
  have hj' : j < 3 := hj
  refine ⟨w.heap.size, 0, rfl, by simp, fun i u hu => ?_⟩
  match j, hj' with
  | 0, _ =>
    have hu' : [Value.int .u64 1, .int .i64 1, .slice none 0 0][i]? = some u := hu
    match i, hu' with
    | 0, hu' => obtain rfl : Value.int .u64 1 = u := by simpa using hu'
                go_cell
    | 1, hu' => obtain rfl : Value.int .i64 1 = u := by simpa using hu'
                go_cell
    | 2, hu' => obtain rfl : Value.slice none 0 0 = u := by simpa using hu'
                go_cell
    | i + 3, hu' => simp at hu'
  | 1, _ =>
    have hu' : [Value.int .u64 1, .int .i64 1, .slice none 0 0][i]? = some u := hu
    match i, hu' with
    | 0, hu' => obtain rfl : Value.int .u64 1 = u := by simpa using hu'
                go_cell
    | 1, hu' => obtain rfl : Value.int .i64 1 = u := by simpa using hu'
                go_cell
    | 2, hu' => obtain rfl : Value.slice none 0 0 = u := by simpa using hu'
                go_cell
    | i + 3, hu' => simp at hu'
  | 2, _ =>
    have hu' : [Value.int .u64 1, .int .i64 1, .slice none 0 0][i]? = some u := hu
    match i, hu' with
    | 0, hu' => obtain rfl : Value.int .u64 1 = u := by simpa using hu'
                go_cell
    | 1, hu' => obtain rfl : Value.int .i64 1 = u := by simpa using hu'
                go_cell
    | 2, hu' => obtain rfl : Value.slice none 0 0 = u := by simpa using hu'
                go_cell
    | i + 3, hu' => simp at hu'
theorem tx_open {db mb tb : Nat} {D : DiskS} {w0 w w1 : World} {b : VB} {ev fv : Value} {el : EntR} {V : VltS} (hb0 : Below w0.heap.size w0 w) (ho3 : ∀ k, Own3 db mb tb k -> w0.heap.size <= k)
    (hv : VaultAt w1 b ev fv el D V) (hk : Kept w w1 (Own3 db mb tb)) (ho : ∀ k, VOwn b ev fv k -> Own3 db mb tb k \/ w.heap.size <= k) {w2 : World} {t : TypeId} (h2 : w2 = w1.alloc (.cells #[.int .u64 1, .int .i64 1, .slice none 0 0] t)) : TX w0 w2 b w1.heap.size D V := by
  subst h2
  have hbel : Below w1.heap.size w1 (w1.alloc (.cells #[.int .u64 1, .int .i64 1, .slice none 0 0] t)) := (Below.refl _ _).alloc (Nat.le_refl _) _
  have hb1 : Below w0.heap.size w0 w1 := hb0.trans (hk.below hb0.size ho3)
  refine ⟨⟨ev, fv, el, hv.below hbel, fun k e => ?_, fun e => by have := hv.own_lt e; omega⟩, ⟨by go_cell, by go_cell, by go_cell, by simp, by simp, by simp⟩, hb1.trans (hbel.mono hb1.size)⟩
  rcases ho k e with q | q
  . exact ho3 k q
  . have := hb0.size; omega

theorem hY1 : appendV dX vX (List.replicate 3 xE) = rY1 := rfl
theorem hY2 : saveV rY1.1 rY1.2.1 (plainS 2) = rY2 := rfl
set_option maxHeartbeats 4000000 in
set_option maxRecDepth 20000 in
theorem tlives_any (w : World) : Calls Tryz.prog 31 #[] w fun e w' => e = .returned (.bool true) /\ Below w.heap.size w w' := by
  go_enter Tryz.func31, Tryz.ntmps31
  go_wp2_with fail
  refine (dnew 1000 w (by decide) (by decide)).mono ?_
  rintro e w1 ⟨db, mb, tb, rfl, hd1, hb1, h1, h2, h3⟩
  have D1 : Hid (DiskIs w1 db mb tb dX) := hid hd1
  have B1 := hid hb1
  have HO : Hid (∀ k, Own3 db mb tb k -> w.heap.size <= k) := hid (by rintro k (rfl | rfl | rfl) <;> assumption)
  clear hd1 hb1 h1 h2 h3
  go_wp2_with fail
  have WO := vlt_open_n D1.out x_good (by decide) y_open.1 y_open.2.1 y_open.2.2.1 (by rw [y_open.2.2.2]; exact x_open) (by decide) (by decide) rfl
  rw [y_st] at WO
  refine WO.mono ?_
  clear WO
  rintro e w2 ⟨b, ev, fv, el, rfl, e1, e2, e3, hv, hk2, ho⟩
  have HV := hid hv
  have HK := hid hk2
  have HOW := hid ho
  have HE : Hid (b.db = db /\ b.mb = mb /\ b.tb = tb) := hid ⟨e1, e2, e3⟩
  clear hv hk2 ho e1 e2 e3
  go_wp2_with fail
  generalize hw3 : World.alloc w2 _ = w3
  have TX3 : Hid (TX w w3 b w2.heap.size dX vX) := hid (tx_open B1.out HO.out HV.out HK.out HOW.out hw3.symm)
  have HSZ : Hid (w3.heap.size = w2.heap.size + 1) := hid (by subst hw3; simp)
  clear hw3 HV HK HOW HE D1 B1 HO
  generalize w2.heap.size = xb at *
  obtain ⟨q0, q1, q2, _, _, _⟩ := TX3.out.box
  have ee : ((rY1.2.2 : Nat) : Int) = 0 := by rw [y1.1]; rfl
  go_wp2_with fail
  have WP := tx_append (n := 3) TX3.out (y_row3 w3) (by decide) x_cut (by decide) rfl
  rw [hY1, ee, HSZ.out] at WP
  refine WP.mono ?_
  clear WP ee q0 q1 q2
  rintro e w4 ⟨rfl, h4⟩
  have TX4 := hid h4
  clear h4
  go_wp2_with fail
  refine (plain_any 2 w4).mono ?_
  rintro e w5 ⟨v, rfl, hv5, hb5⟩
  have ee : ((rY2.2.2 : Nat) : Int) = 0 := by rw [y2.1]; rfl
  have WS := tx_save TX4.out hb5 hv5 y1c.1.good (by have := y1c.2; omega) (by rw [y1.2.2.2.1]; decide) (by rw [y1.2.2.2.2.1]; decide) y1.2.1 y_save.1 ⟨let ⟨P, h⟩ := y1c.1.inv; ⟨P, h.sameL y_log⟩, y_save.2, ((acts_save _ _ _).rising y1c.1.ris), (saveD_good _ _ y1c.1.good (by have := y1c.2; omega)).1⟩ y1a
  rw [hY2, ee] at WS
  have HWS := hid WS
  obtain ⟨mv, dv, rfl, _⟩ := hv5
  clear WS ee hb5
  go_wp2_with fail
  refine HWS.out.mono ?_
  rintro e w6 ⟨rfl, h6⟩
  have TX6 := hid h6
  clear h6 HWS
  obtain ⟨ev6, fv6, el6, hv6, _, _⟩ := TX6.out.vlt
  have HV6 := hid hv6
  clear hv6
  have WT := vlt_term HV6.out (by rw [y2.2.2.1]; decide) (by rw [y2.2.2.2]; decide) 2
  rw [y2s.2] at WT
  have HWT := hid WT
  clear WT
  go_wp2_with fail
  refine HWT.out.mono ?_
  rintro e w7 ⟨rfl, hb7⟩
  have TX7 := hid (TX6.out.below hb7)
  have HV7 := hid (HV6.out.below hb7)
  clear hb7 HV6
  dsimp only
  have WB := vlt_base HV7.out
  have es : rY2.2.1.s.i = 2 := by rw [y2s.1]; rfl
  rw [es] at WB
  have HWB := hid WB
  clear WB es
  go_wp2_with fail
  refine HWB.out.mono ?_
  rintro e w8 ⟨rfl, hb8⟩
  have TX8 := hid (TX7.out.below hb8)
  have HV8 := hid (HV7.out.below hb8)
  clear hb8 HV7
  have WL := vlt_last HV8.out (by rw [y2.2.2.1]; decide)
  rw [y2.2.2.1] at WL
  rw [show (((3 : Nat) : Int)) = 3 from rfl] at WL
  have HWL := hid WL
  clear WL
  go_wp2_with fail
  refine HWL.out.mono ?_
  rintro e w9 ⟨rfl, hb9⟩
  have TX9 := hid (TX8.out.below hb9)
  have HV9 := hid (HV8.out.below hb9)
  clear hb9 HV8
  have WR := vlt_broken HV9.out
  rw [y2.2.1] at WR
  have HWR := hid WR
  clear WR
  go_wp2_with fail
  refine HWR.out.mono ?_
  rintro e w10 ⟨rfl, rfl⟩
  go_wp2_with fail
  go_ret
  exact ⟨rfl, TX9.out.bel⟩
end Go.Proofs.YtjdglpcnkiioeaaGreat
