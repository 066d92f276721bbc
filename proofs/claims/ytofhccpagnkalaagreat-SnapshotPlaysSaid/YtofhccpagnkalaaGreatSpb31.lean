/- Several texts in one: Vlt, Slt, Sdo, Spl, SplH. What each proves stands ahead of it; together they serve splays_law_holds. No conditions but those stated. -/
import Derived.Test.YtofhccpagnkalaaGreatRows
import Derived.Test.YtofhccpagnkalaaGreatSpb16
import Derived.Test.YtofhccpagnkalaaGreatSpb25
import Derived.Test.YtofhccpagnkalaaGreatSpb10
import Derived.Test.YtofhccpagnkalaaGreatSpb14
import Derived.Test.YtofhccpagnkalaaGreatSpb30
import Derived.Test.YtofhccpagnkalaaGreatSpb29
import Derived.Test.YtofhccpagnkalaaGreatSpb19
/- Arguments that are slices of the law's calls (.Z seat), and Light; no conditions. -/
namespace Go.Proofs.YtofhccpagnkalaaGreat
open Go.ChangeShapes Go.WideShapes Go.ChangeAt Go.RowKit Go.Deep Go.Proofs.Own

theorem cellsTears : Tryz.prog.cellsOf 64 = 1 := by kernel_rfl
section
variable {H : Type} {enc : TypeId × Value → H} {W : World}
end
theorem TearsIs.apart {w : World} {a : Option Addr} {n c : Nat} {ts : List (Nat × Nat)} (h : TearsIs w (.slice a n c) ts) {R : Nat → Prop} (hR : ∀ k, R k → w.heap.size ≤ k) : ts = [] ∨ ∀ b, (Value.slice a n c).ownBlock = some b → ¬ R b := by
  rcases ts with _ | ⟨x, ts⟩
  · exact .inl rfl
  · obtain ⟨_, _, b', o, rfl, h, _⟩ := h.head
    refine .inr fun b hb e => ?_
    obtain rfl : b' = b := Option.some.inj hb
    have := hR _ e
    have := World.block_lt_of_cell? _ _ h
    simp only at this
    omega

end Go.Proofs.YtofhccpagnkalaaGreat

/- Arguments that are slices of the snapshot law's calls, and Few; no conditions. -/
namespace Go.Proofs.YtofhccpagnkalaaGreat
open Go.ChangeShapes Go.WideShapes Go.ChangeAt Go.RowKit Go.Deep Go.Proofs.Own

/-- A call: its kind, its number, its snapshot, its tears. -/
structure SOp where
  k : Int
  n : Int
  i : Int
  t : Int
  am : Option Addr
  nm : Nat
  cm : Nat
  ad : Option Addr
  nd : Nat
  cd : Nat
  tv : Value
  ts : List (Nat × Nat)
def sopV (r : SOp) : List Value := [.int .i64 r.k, .int .i64 r.n, .int .u64 r.i, .int .u64 r.t, .slice r.am r.nm r.cm, .slice r.ad r.nd r.cd, r.tv]
def SOpOk (w : World) (r : SOp) : Prop := r.n ≤ 9223372036854775807 ∧ ((r.nm ≤ 2097152 → ∃ l, l.length = r.nm ∧ Ints w (.slice r.am r.nm r.cm) l) ∧ (r.nd ≤ 2097152 → ∃ l, l.length = r.nd ∧ Bytes w (.slice r.ad r.nd r.cd) l)) ∧ TearsIs w r.tv r.ts
/-- v: the calls rs. -/
def SOpsIs (w : World) (v : Value) (rs : List SOp) : Prop := SRow w 7 v (rs.map sopV) ∧ (∀ r ∈ rs, SOpOk w r) ∧ rs.length ≤ maxLen
theorem cellsSnap27 : Tryz.prog.cellsOf 40 = 4 := by kernel_rfl
theorem cellsInts27 : Tryz.prog.cellsOf 38 = 1 := by kernel_rfl
theorem cellsBytes27 : Tryz.prog.cellsOf 22 = 1 := by kernel_rfl
theorem cellsSOp : Tryz.prog.cellsOf 76 = 7 := by kernel_rfl
section
variable {H : Type} {enc : TypeId × Value → H} {W : World}
set_option maxRecDepth 100000 in
theorem open_snap27 {n : Nat} {cs : List Value} {y : DataW H × List MemPlace} (h : DataW.trod enc Tryz.prog W 0 (fun _ => true) true n 40 cs = some y) : ∃ (i t : Int) (am : Option Addr) (nm cm : Nat) (ad : Option Addr) (nd cd : Nat), cs = [.int .u64 i, .int .u64 t, .slice am nm cm, .slice ad nd cd] ∧ (nm ≤ 2097152 → ∃ l, l.length = nm ∧ Ints W (.slice am nm cm) l) ∧ (nd ≤ 2097152 → ∃ l, l.length = nd ∧ Bytes W (.slice ad nd cd) l) := by
  obtain ⟨xs, k, _, _, hl, hxl, hg⟩ := DataW.trod_struct Tryz.underlying40 h
  rw [cellsSnap27] at hl
  match cs, hl with
  | [c0, c1, c2, c3], _ =>
    match xs, hxl with
    | [y0, y1, y2, y3], _ =>
      have g0 := hg 0 _ rfl
      have g1 := hg 1 _ rfl
      have g2 := hg 2 _ rfl
      have g3 := hg 3 _ rfl
      simp only [List.getElem_toArray, List.getElem_cons_zero, List.getElem_cons_succ] at g0 g1 g2 g3
      rw [cellsU64] at g0 g1
      rw [cellsInts27] at g2
      rw [cellsBytes27] at g3
      simp only [List.drop_zero, List.drop_succ_cons, List.take_succ_cons, List.take_zero, List.getElem?_cons_zero, List.getElem?_cons_succ] at g0 g1 g2 g3
      obtain ⟨z0, e0, _, w0⟩ := DataW.trod_int Tryz.underlying27 g0
      obtain rfl : c0 = .int .u64 z0 := by simpa using e0
      obtain ⟨z1, e1, _, w1⟩ := DataW.trod_int Tryz.underlying27 g1
      obtain rfl : c1 = .int .u64 z1 := by simpa using e1
      obtain ⟨am, nm, cm, rfl, hm⟩ := open_ints1 g2
      obtain ⟨ad, nd, cd, rfl, hd⟩ := open_bytes1 g3
      exact ⟨z0, z1, am, nm, cm, ad, nd, cd, rfl, hm, hd⟩
set_option maxRecDepth 100000 in
theorem open_sop {n : Nat} {cs : List Value} {y : DataW H × List MemPlace} (h : DataW.trod enc Tryz.prog W 0 (fun _ => true) true n 76 cs = some y) : ∃ r : SOp, cs = sopV r ∧ SOpOk W r := by
  obtain ⟨xs, k, _, _, hl, hxl, hg⟩ := DataW.trod_struct Tryz.underlying76 h
  rw [cellsSOp] at hl
  match cs, hl with
  | [c0, c1, c2, c3, c4, c5, c6], _ =>
    match xs, hxl with
    | [y0, y1, y2, y3], _ =>
      have g0 := hg 0 _ rfl
      have g1 := hg 1 _ rfl
      have g2 := hg 2 _ rfl
      have g3 := hg 3 _ rfl
      simp only [List.getElem_toArray, List.getElem_cons_zero, List.getElem_cons_succ] at g0 g1 g2 g3
      rw [cellsInt] at g0 g1
      rw [cellsSnap27] at g2
      rw [cellsTears] at g3
      simp only [List.drop_zero, List.drop_succ_cons, List.take_succ_cons, List.take_zero, List.getElem?_cons_zero, List.getElem?_cons_succ] at g0 g1 g2 g3
      obtain ⟨z0, e0, _, w0⟩ := DataW.trod_int Tryz.underlying3 g0
      obtain rfl : c0 = .int .i64 z0 := by simpa using e0
      obtain ⟨z1, e1, _, w1⟩ := DataW.trod_int Tryz.underlying3 g1
      obtain rfl : c1 = .int .i64 z1 := by simpa using e1
      obtain ⟨i, t, am, nm, cm, ad, nd, cd, e2, h2⟩ := open_snap27 g2
      simp only [List.cons.injEq, and_true] at e2
      obtain ⟨rfl, rfl, rfl, rfl⟩ := e2
      obtain ⟨ts, h3⟩ := open_tears g3
      exact ⟨⟨z0, z1, i, t, am, nm, cm, ad, nd, cd, c6, ts⟩, rfl, (i64_range w1).2, h2, h3⟩
set_option maxRecDepth 100000 in
theorem open_sops {fuel : Nat} {v : Value} {x : DataW H × List MemPlace} (hf : DataW.trod enc Tryz.prog W 0 (fun _ => true) true fuel 70 [v] = some x) : ∃ rs, SOpsIs W v rs := by
  obtain ⟨rs, h1, h2⟩ := open_rows (val := sopV) (Ok := SOpOk W) Tryz.underlying70 cellsSOp (by decide) (fun n cs y h => open_sop h) hf
  exact ⟨rs, h1, h2⟩
end
theorem SOpOk.below {w w' : World} {r : SOp} (h : SOpOk w r) (hb : Below w.heap.size w w') : SOpOk w' r :=
  ⟨h.1, ⟨fun e => let ⟨l, h1, h2⟩ := h.2.1.1 e; ⟨l, h1, h2.below hb⟩, fun e => let ⟨l, h1, h2⟩ := h.2.1.2 e; ⟨l, h1, h2.below hb⟩⟩, h.2.2.below hb⟩
theorem SOpsIs.below {w w' : World} {v : Value} {rs : List SOp} (h : SOpsIs w v rs) (hb : Below w.heap.size w w') : SOpsIs w' v rs := ⟨h.1.below hb, fun r hr => (h.2.1 r hr).below hb, h.2.2⟩
/-- The cells of a call in block b from o on. -/
structure SC27 (w : World) (b o : Nat) (r : SOp) : Prop where
  c0 : w.cell? ⟨b, o, none⟩ = some (.int .i64 r.k)
  c1 : w.cell? ⟨b, o + 1, none⟩ = some (.int .i64 r.n)
  c2 : w.cell? ⟨b, o + 2, none⟩ = some (.int .u64 r.i)
  c3 : w.cell? ⟨b, o + 3, none⟩ = some (.int .u64 r.t)
  c4 : w.cell? ⟨b, o + 4, none⟩ = some (.slice r.am r.nm r.cm)
  c5 : w.cell? ⟨b, o + 5, none⟩ = some (.slice r.ad r.nd r.cd)
  c6 : w.cell? ⟨b, o + 6, none⟩ = some r.tv
theorem SC27.kept {w w' : World} {b o : Nat} {r : SOp} {S : Nat → Prop} (h : SC27 w b o r) (hk : Kept w w' S) (hs : ¬ S b) : SC27 w' b o r :=
  ⟨hk.cell h.c0 hs, hk.cell h.c1 hs, hk.cell h.c2 hs, hk.cell h.c3 hs, hk.cell h.c4 hs, hk.cell h.c5 hs, hk.cell h.c6 hs⟩
theorem SC27.below {w w' : World} {b o : Nat} {r : SOp} (h : SC27 w b o r) (hb : Below w.heap.size w w') : SC27 w' b o r := h.kept (Kept.of_below hb (S := fun _ => False) fun k h1 h2 => by omega) (fun h => h)
theorem SC27.box (w : World) (r : SOp) : SC27 (w.alloc (.cells #[.int .i64 r.k, .int .i64 r.n, .int .u64 r.i, .int .u64 r.t, .slice r.am r.nm r.cm, .slice r.ad r.nd r.cd, r.tv] 76)) w.heap.size 0 r := ⟨by go_cell, by go_cell, by go_cell, by go_cell, by go_cell, by go_cell, by go_cell⟩
theorem SOpsIs.at {w : World} {a : Option Addr} {n c : Nat} {rs : List SOp} (h : SOpsIs w (.slice a n c) rs) {j : Nat} {r : SOp} (hj : rs[j]? = some r) : ∃ b o, a = some ⟨b, o, none⟩ ∧ b < w.heap.size ∧ SC27 w b (o + j * 7) r := by
  obtain ⟨hl, he⟩ := List.getElem?_eq_some_iff.1 hj
  obtain ⟨b, o, h1, h2, h3⟩ := h.1.at (j := j) (by rw [List.length_map]; exact hl)
  rw [List.getElem_map, he] at h3
  exact ⟨b, o, h1, h2, by have := h3 0 _ rfl; rwa [Nat.add_zero] at this, h3 1 _ rfl, h3 2 _ rfl, h3 3 _ rfl, h3 4 _ rfl, h3 5 _ rfl, h3 6 _ rfl⟩

def sFew1 (r : SOp) : Bool := decide ((r.nm ≤ 30 ∧ r.nd ≤ 33000) ∧ r.ts.length ≤ 40)
def sFew (rs : List SOp) : Bool := rs.all sFew1 && decide (rs.length ≤ 60)
open Go.Maps Go.Shelf in
set_option maxHeartbeats 1600000 in
set_option maxRecDepth 20000 in
theorem sfew_any (v : Value) (rs : List SOp) (w : World) (h : SOpsIs w v rs) : Calls Tryz.prog 26 #[v] w fun e w' => e = .returned (.bool (sFew rs)) ∧ Below w.heap.size w w' := by
  obtain ⟨la, lc, rfl, _⟩ := h.1.shape
  rw [List.length_map] at h ⊢
  obtain ⟨n, hn⟩ : ∃ n, rs.length = n := ⟨_, rfl⟩
  have HN := Lib.hid hn
  have HL := Lib.hid h
  have hmx := h.2.2
  rw [hn] at HL hmx ⊢
  unfold maxLen at hmx
  clear h hn
  go_enter Tryz.func26, Tryz.ntmps26
  go_wp2_with fail
  go_loopw [7] (fun i wr => ∃ j : Nat, i = .int .i64 j ∧ j ≤ n ∧ (∀ r ∈ rs.take j, sFew1 r = true) ∧ Below w.heap.size w wr) (fun i _ => n - (intOf i).toNat)
  case atStart => exact ⟨0, rfl, by omega, by simp, Below.refl _ _⟩
  case round =>
    obtain ⟨j, rfl, hj, hall, hb⟩ := hrel
    have BR := Lib.hid hb
    have HA := Lib.hid hall
    clear hb hall
    by_cases hlt : j < n
    · obtain ⟨r, hr, hm⟩ := getAt (l := rs) (j := j) (by rw [HN.out]; exact hlt)
      obtain ⟨b, o, rfl, hbl, hc⟩ := (HL.out.below BR.out).at hr
      obtain ⟨ta, tc, htv, _⟩ := ((HL.out.2.1 r hm).2.2).1.shape
      rw [List.length_map] at htv
      have HR := Lib.hid hr
      have HM := Lib.hid hm
      obtain ⟨x0, x1, x2, x3, x4, x5, x6⟩ := hc
      rw [htv] at x6
      clear hr hm htv
      obtain ⟨m, hm⟩ : ∃ m, r.ts.length = m := ⟨_, rfl⟩
      have HT := Lib.hid hm
      rw [hm] at x6
      clear hm
      have AX : Hid (Below w.heap.size w (wr.alloc (.cells #[.int .i64 r.k, .int .i64 r.n, .int .u64 r.i, .int .u64 r.t, .slice r.am r.nm r.cm, .slice r.ad r.nd r.cd, .slice ta m tc] 76))) := Lib.hid (BR.out.alloc BR.out.size _)
      have hob : SC27 (wr.alloc (.cells #[.int .i64 r.k, .int .i64 r.n, .int .u64 r.i, .int .u64 r.t, .slice r.am r.nm r.cm, .slice r.ad r.nd r.cd, .slice ta m tc] 76)) wr.heap.size 0 ⟨r.k, r.n, r.i, r.t, r.am, r.nm, r.cm, r.ad, r.nd, r.cd, .slice ta m tc, r.ts⟩ := SC27.box wr ⟨r.k, r.n, r.i, r.t, r.am, r.nm, r.cm, r.ad, r.nd, r.cd, .slice ta m tc, r.ts⟩
      have HOB := Lib.hid hob
      clear hob
      by_cases hli : r.nm ≤ 30 ∧ r.nd ≤ 33000
      · go_wp2_with fail
        clear x0 x1 x2 x3 x4 x5 x6
        generalize World.alloc wr _ = wx at *
        refine (light1_yes r.i r.t r.am r.ad r.nm r.cm r.nd r.cd _ hli.1 hli.2).mono ?_
        rintro e w2 ⟨rfl, hb2⟩
        obtain ⟨z0, z1, z2, z3, z4, z5, z6⟩ := HOB.out.below hb2
        rw [Nat.zero_add] at z1 z2 z3 z4 z5 z6
        have hwl : wr.heap.size < w2.heap.size := World.block_lt_of_cell? _ _ z0
        have B2 := Lib.hid (AX.out.trans (hb2.mono AX.out.size))
        clear hb2
        by_cases h40 : m ≤ 40
        · have b1 : ¬ (40 : Int) < (m : Int) := by omega
          go_wp2_with fail
          go_roundw
          case rel =>
            refine ⟨j + 1, by first | rfl | go_num, by omega, fun q hq => ?_, B2.out⟩
            rw [List.take_add_one, HR.out] at hq
            rcases List.mem_append.1 hq with hq | hq
            · exact HA.out q hq
            · obtain rfl := List.mem_singleton.1 hq
              exact decide_eq_true ⟨hli, by rw [HT.out]; exact h40⟩
          all_goals (show n - ((j : Int) + 1).toNat < n - ((j : Int)).toNat; omega)
        · have b1 : (40 : Int) < (m : Int) := by omega
          have HV : Hid (sFew rs = false) := Lib.hid (by
            unfold sFew
            have : rs.all sFew1 = false := by
              rw [List.all_eq_false]
              exact ⟨r, HM.out, by unfold sFew1; rw [HT.out]; simp [h40]⟩
            rw [this]
            rfl)
          go_wp2_with fail
          go_ret
          exact ⟨by rw [HV.out]; rfl, B2.out⟩
      · have HV : Hid (sFew rs = false) := Lib.hid (by
          unfold sFew
          have : rs.all sFew1 = false := by
            rw [List.all_eq_false]
            exact ⟨r, HM.out, by unfold sFew1; simp only [decide_eq_true_eq]; exact fun h => hli h.1⟩
          rw [this]
          rfl)
        go_wp2_with fail
        clear x0 x1 x2 x3 x4 x5 x6
        generalize World.alloc wr _ = wx at *
        refine (light1_no r.i r.t r.am r.ad r.nm r.cm r.nd r.cd _ hli).mono ?_
        rintro e w2 ⟨rfl, hb2⟩
        have B2 := Lib.hid (AX.out.trans (hb2.mono AX.out.size))
        clear hb2
        go_wp2_with fail
        go_ret
        exact ⟨by rw [HV.out]; rfl, B2.out⟩
    · obtain rfl : j = n := by omega
      have hal : rs.all sFew1 = true := by
        rw [List.all_eq_true]
        intro r hr
        exact HA.out r (by rw [List.take_of_length_le (by rw [HN.out]; exact Nat.le_refl _)]; exact hr)
      by_cases h1 : j ≤ 60
      · have b1 : (j : Int) ≤ 60 := by omega
        have HV : Hid (sFew rs = true) := Lib.hid (by unfold sFew; rw [hal, HN.out]; simpa using h1)
        clear hal
        go_wp2_with fail
        go_ret
        exact ⟨by rw [HV.out]; rfl, BR.out⟩
      · have b1 : ¬ (j : Int) ≤ 60 := by omega
        have HV : Hid (sFew rs = false) := Lib.hid (by unfold sFew; rw [hal, HN.out]; simpa using h1)
        clear hal
        go_wp2_with fail
        go_ret
        exact ⟨by rw [HV.out]; rfl, BR.out⟩
end Go.Proofs.YtofhccpagnkalaaGreat

/- The law SnapshotPlays: do, both ways; contract; no conditions but the ranges. -/
namespace Go.Proofs.YtofhccpagnkalaaGreat
open Go.RowKit Go.Maps Go.Proofs.Own

theorem TearsIs.keptIf27 {w w' : World} {v : Value} {ts : List (Nat × Nat)} {S : Nat → Prop} (h : TearsIs w v ts) (hk : Kept w w' S) (hs : ts = [] ∨ ∀ b, v.ownBlock = some b → ¬ S b) : TearsIs w' v ts :=
  ⟨h.1.kept hk (hs.imp (fun e => by rw [e]; rfl) id), h.2⟩
/-- What do leaves. -/
def SDoPost (bo db mb tb sb : Nat) (D : DiskS) (w : World) : Ending → World → Prop := fun e w' => e = .returned (.bool true) ∧ ∃ sb' D' S', PairS w' bo db mb tb (some ⟨sb', 0, none⟩) D' S' ∧ StoreL w' sb' db mb tb S' ∧ ¬ Own3 db mb tb sb' ∧ bo < sb' ∧ (sb' = sb ∨ w.heap.size ≤ sb') ∧ D'.down = false ∧ D'.steps ≤ D.steps + 5 ∧ Kept w w' (fun k => Own3 db mb tb k ∨ k = bo ∨ k = sb)
theorem calm_gone {D : DiskS} (h : Calm D) : (goneD D).1.down = false := (gone27_calm h).2.1

set_option maxHeartbeats 4000000 in
set_option maxRecDepth 20000 in
theorem sdo_crash (bo db mb tb sb : Nat) (D : DiskS) (S x : SnapS) (k n : Int) (ya za ta : Option Addr) (yn yc zn zc tn tc : Nat) (ts : List (Nat × Nat)) (w : World) (h : PairS w bo db mb tb (some ⟨sb, 0, none⟩) D S) (hk : StoreL w sb db mb tb S) (hnb : ¬ Own3 db mb tb sb) (hbo : bo < sb) (hdn : D.down = false) (hx : SnapIs w (.agg #[.int .u64 x.i, .int .u64 x.t, .slice ya yn yc, .slice za zn zc]) x) (hxm : x.ms ≠ [] → ∀ b, (Value.slice ya yn yc).ownBlock = some b → ¬ (Own3 db mb tb b ∨ b = bo ∨ b = sb)) (hxd : x.d ≠ [] → ∀ b, (Value.slice za zn zc).ownBlock = some b → ¬ (Own3 db mb tb b ∨ b = bo ∨ b = sb)) (hT : TearsIs w (.slice ta tn tc) ts) (htn : ts.length = tn) (htm : ts.length ≤ 1000) (hta : ts = [] ∨ ∀ b, (Value.slice ta tn tc).ownBlock = some b → ¬ (Own3 db mb tb b ∨ b = bo ∨ b = sb)) (hn0 : n ≤ 9223372036854775807) (hst : D.steps + 5 ≤ 1000000000) (hk1 : k = 1) :
    Calls Tryz.prog 28 #[.pointer (some ⟨bo, 0, none⟩), .agg #[.int .i64 k, .int .i64 n, .int .u64 x.i, .int .u64 x.t, .slice ya yn yc, .slice za zn zc, .slice ta tn tc]] w (SDoPost bo db mb tb sb D w) := by
  subst hk1
  have LO : ∀ k, (Own3 db mb tb k ∨ k = bo ∨ k = sb) → k < w.heap.size := by
    obtain ⟨_, _, _, _, _, _, _, _, _, _, hb, _⟩ := h.sl
    rintro k (h1 | rfl | rfl)
    · exact h.disk.lt3 k h1
    · exact hb.lt
    · exact hk.lt
  have HLO := Lib.hid LO
  have NB := Lib.hid hnb
  have NBO := Lib.hid hbo
  have HDN := Lib.hid hdn
  have HXM := Lib.hid hxm
  have HXD := Lib.hid hxd
  have HTA := Lib.hid hta
  have HTM := Lib.hid htm
  have HTN := Lib.hid htn
  have HN0 := Lib.hid hn0
  have HST := Lib.hid hst
  have AX : Below w.heap.size w (w.alloc (.cells #[.int .i64 1, .int .i64 n, .int .u64 x.i, .int .u64 x.t, .slice ya yn yc, .slice za zn zc, .slice ta tn tc] 76)) := (Below.refl _ _).alloc (Nat.le_refl _) _
  have HPX := h.below AX
  have HKX := hk.below AX
  have HTX := hT.below AX
  have HIX := hx.below AX
  have HOY : SC27 (w.alloc (.cells #[.int .i64 1, .int .i64 n, .int .u64 x.i, .int .u64 x.t, .slice ya yn yc, .slice za zn zc, .slice ta tn tc] 76)) w.heap.size 0 (⟨1, n, x.i, x.t, ya, yn, yc, za, zn, zc, .slice ta tn tc, ts⟩ : SOp) := SC27.box w (⟨1, n, x.i, x.t, ya, yn, yc, za, zn, zc, .slice ta tn tc, ts⟩ : SOp)
  clear h hk hnb hbo hdn hT htm htn hta hn0 hst LO hx hxm hxd
  go_enter Tryz.func28, Tryz.ntmps28
  have HOZ := Lib.hid HOY
  obtain ⟨x0, x1, x2, x3, x4, x5, x6⟩ := HOY
  rw [Nat.zero_add] at x1 x2 x3 x4 x5 x6
  go_wp2_with fail
  clear x0 x1 x2 x3 x4 x5 x6
  generalize World.alloc w _ = w0 at *
  have HP0 := Lib.hid HPX
  have HK0 := Lib.hid HKX
  have HT00 := Lib.hid HTX
  have HX0 := Lib.hid HIX
  have HO0 := HOZ
  have K0 : Hid (Kept w w0 (fun k => Own3 db mb tb k ∨ k = bo ∨ k = sb)) := Lib.hid (Kept.of_below AX (fun k h1 h2 => by omega))
  have Z0 : Hid (w.heap.size < w0.heap.size) := Lib.hid (World.block_lt_of_cell? _ _ HOZ.out.c0)
  clear AX HPX HKX HTX HIX
  refine (sreopen_any bo db mb tb (some ⟨sb, 0, none⟩) D S _ ts w0 HP0.out HT00.out HTM.out (HTA.out.imp id (fun h b hb e => h b hb (.inl e))) (by have := HST.out; omega)).mono ?_
  rintro e w6 ⟨rfl, bc, hp6, hk6, hbc, hco, hnc, hK6⟩
  have PP := Lib.hid (And.intro hp6 (And.intro hk6 (And.intro hnc hco)))
  have BC : Hid (w.heap.size ≤ bc) := Lib.hid (by have := Z0.out; omega)
  have K6 : Hid (Kept w w6 (fun k => Own3 db mb tb k ∨ k = bo ∨ k = sb)) := Lib.hid (K0.out.trans (hK6.mono fun k _ h => h.imp id .inl))
  have HCA : Hid ((reG D ts).down = false) := Lib.hid (calm_gone (calm_boot27 _))
  have HSR := Lib.hid (reG_good HP0.out.good ts (by have := HST.out; omega)).2
  clear hp6 hk6 hbc hnc hco hK6
  go_wp2_with fail
  go_ret
  exact ⟨rfl, bc, reG D ts, S, PP.out.1, PP.out.2.1, PP.out.2.2.1, PP.out.2.2.2, .inr BC.out, HCA.out, by have h1 := HSR.out; omega, K6.out⟩
set_option maxHeartbeats 4000000 in
set_option maxRecDepth 20000 in
theorem sdo_arm (bo db mb tb sb : Nat) (D : DiskS) (S x : SnapS) (k n : Int) (ya za ta : Option Addr) (yn yc zn zc tn tc : Nat) (ts : List (Nat × Nat)) (w : World) (h : PairS w bo db mb tb (some ⟨sb, 0, none⟩) D S) (hk : StoreL w sb db mb tb S) (hnb : ¬ Own3 db mb tb sb) (hbo : bo < sb) (hdn : D.down = false) (hx : SnapIs w (.agg #[.int .u64 x.i, .int .u64 x.t, .slice ya yn yc, .slice za zn zc]) x) (hxm : x.ms ≠ [] → ∀ b, (Value.slice ya yn yc).ownBlock = some b → ¬ (Own3 db mb tb b ∨ b = bo ∨ b = sb)) (hxd : x.d ≠ [] → ∀ b, (Value.slice za zn zc).ownBlock = some b → ¬ (Own3 db mb tb b ∨ b = bo ∨ b = sb)) (hT : TearsIs w (.slice ta tn tc) ts) (htn : ts.length = tn) (htm : ts.length ≤ 1000) (hta : ts = [] ∨ ∀ b, (Value.slice ta tn tc).ownBlock = some b → ¬ (Own3 db mb tb b ∨ b = bo ∨ b = sb)) (hn0 : n ≤ 9223372036854775807) (hst : D.steps + 5 ≤ 1000000000) (hk1 : k = 2) :
    Calls Tryz.prog 28 #[.pointer (some ⟨bo, 0, none⟩), .agg #[.int .i64 k, .int .i64 n, .int .u64 x.i, .int .u64 x.t, .slice ya yn yc, .slice za zn zc, .slice ta tn tc]] w (SDoPost bo db mb tb sb D w) := by
  subst hk1
  have LO : ∀ k, (Own3 db mb tb k ∨ k = bo ∨ k = sb) → k < w.heap.size := by
    obtain ⟨_, _, _, _, _, _, _, _, _, _, hb, _⟩ := h.sl
    rintro k (h1 | rfl | rfl)
    · exact h.disk.lt3 k h1
    · exact hb.lt
    · exact hk.lt
  have HLO := Lib.hid LO
  have NB := Lib.hid hnb
  have NBO := Lib.hid hbo
  have HDN := Lib.hid hdn
  have HXM := Lib.hid hxm
  have HXD := Lib.hid hxd
  have HTA := Lib.hid hta
  have HTM := Lib.hid htm
  have HTN := Lib.hid htn
  have HN0 := Lib.hid hn0
  have HST := Lib.hid hst
  have AX : Below w.heap.size w (w.alloc (.cells #[.int .i64 2, .int .i64 n, .int .u64 x.i, .int .u64 x.t, .slice ya yn yc, .slice za zn zc, .slice ta tn tc] 76)) := (Below.refl _ _).alloc (Nat.le_refl _) _
  have HPX := h.below AX
  have HKX := hk.below AX
  have HTX := hT.below AX
  have HIX := hx.below AX
  have HOY : SC27 (w.alloc (.cells #[.int .i64 2, .int .i64 n, .int .u64 x.i, .int .u64 x.t, .slice ya yn yc, .slice za zn zc, .slice ta tn tc] 76)) w.heap.size 0 (⟨2, n, x.i, x.t, ya, yn, yc, za, zn, zc, .slice ta tn tc, ts⟩ : SOp) := SC27.box w (⟨2, n, x.i, x.t, ya, yn, yc, za, zn, zc, .slice ta tn tc, ts⟩ : SOp)
  clear h hk hnb hbo hdn hT htm htn hta hn0 hst LO hx hxm hxd
  go_enter Tryz.func28, Tryz.ntmps28
  have HOZ := Lib.hid HOY
  obtain ⟨x0, x1, x2, x3, x4, x5, x6⟩ := HOY
  rw [Nat.zero_add] at x1 x2 x3 x4 x5 x6
  go_wp2_with fail
  clear x0 x1 x2 x3 x4 x5 x6
  generalize World.alloc w _ = w0 at *
  have HP0 := Lib.hid HPX
  have HK0 := Lib.hid HKX
  have HT00 := Lib.hid HTX
  have HX0 := Lib.hid HIX
  have HO0 := HOZ
  have K0 : Hid (Kept w w0 (fun k => Own3 db mb tb k ∨ k = bo ∨ k = sb)) := Lib.hid (Kept.of_below AX (fun k h1 h2 => by omega))
  have Z0 : Hid (w.heap.size < w0.heap.size) := Lib.hid (World.block_lt_of_cell? _ _ HOZ.out.c0)
  clear AX HPX HKX HTX HIX
  obtain ⟨hd, hg, ⟨a0, m0, c0, am, nm, cm, ad, nd, cd, hn, hb, hs, hi, hap, ham, had⟩, hno, hfile⟩ := HP0.out
  have HD0 := Lib.hid hd
  have G0 := Lib.hid hg
  have HNP := Lib.hid hn
  have HB0 := Lib.hid hb
  have HS0 := Lib.hid hs
  have HI0 := Lib.hid hi
  have HFI := Lib.hid hfile
  have HFQ : Hid (∀ b, FarP bo db mb tb (some ⟨sb, 0, none⟩) b ↔ ¬ (Own3 db mb tb b ∨ b = bo ∨ b = sb)) := Lib.hid (fun b => ⟨fun ⟨h1, h2, h3⟩ e => by
      rcases e with e | e | e
      · exact h1 e
      · exact h2 e
      · exact h3 _ rfl e.symm, fun h => ⟨fun e => h (.inl e), fun e => h (.inr (.inl e)), fun q hq e => h (.inr (.inr (by obtain rfl := Option.some.inj hq; exact e.symm)))⟩⟩)
  have AP0 : Hid (∀ b, (Value.slice a0 m0 c0).ownBlock = some b → ¬ (Own3 db mb tb b ∨ b = bo ∨ b = sb)) := Lib.hid (fun b h => (HFQ.out b).1 (hap b h))
  have AM0 : Hid (S.ms ≠ [] → ∀ b, (Value.slice am nm cm).ownBlock = some b → ¬ (Own3 db mb tb b ∨ b = bo ∨ b = sb)) := Lib.hid (fun e b h => (HFQ.out b).1 (ham e b h))
  have AD0 : Hid (S.d ≠ [] → ∀ b, (Value.slice ad nd cd).ownBlock = some b → ¬ (Own3 db mb tb b ∨ b = bo ∨ b = sb)) := Lib.hid (fun e b h => (HFQ.out b).1 (had e b h))
  have NO := Lib.hid hno
  clear hd hg hn hb hs hi hap ham had hno hfile
  have ST := Stable.from w0
  refine region_start [0, 1, 3, 7, 0, 16, 63, 127] 0 (fun w' => Below w0.heap.size w0 w') (by kernel_rfl) ?_
  refine stage_heads [0, 1, 2, 3, 4, 5] (by kernel_rfl) (L := #[true, true, true, true, true, true, false, false]) (by kernel_rfl) (f' := 2) rfl (fun _ _ _ _ h => h) (fun w o h => ST.alloc h o) (.inr (by first | exact (Below.refl _ _).drew | exact Below.refl _ _)) ?_
  simp only [List.flatMap_cons, List.flatMap_nil, List.drop_succ_cons, List.drop_zero, List.take_succ_cons, List.take_zero, List.cons_append, List.nil_append, List.append_nil]
  iterate 6 (first | (refine heads_load _ (by rfl) (fun w' hs => by obtain ⟨q0, _⟩ := HB0.out.below hs; obtain ⟨x0, x1, x2, x3, x4, x5, x6⟩ := HO0.out.below hs; rw [Nat.zero_add] at x1 x2 x3 x4 x5 x6; go_simp; try with_reducible rfl) rfl ?_; simp only [Act.put, List.setIfInBounds_toArray, List.set_cons_zero, List.set_cons_succ]) | (refine heads_pure _ (by rfl) (fun w' => by go_simp; try with_reducible rfl) ?_; simp only [Act.put, List.setIfInBounds_toArray, List.set_cons_zero, List.set_cons_succ]))
  refine heads_nil ?_
  refine stage_op 6 (by kernel_rfl) (L := #[true, true, true, true, true, true, true, false]) (by kernel_rfl) ?_
  simp only [List.drop_succ_cons, List.drop_zero, List.take_succ_cons, List.take_zero]
  go_wp2_with fail; refine (darm_any db mb tb D n _ (by first | exact HD0.out.below ((Below.refl _ _).drew) | exact HD0.out)).mono ?_; rintro e w1 ⟨rfl, hd1, hk1⟩; have HD1 := Lib.hid hd1; have K01 : Hid (Kept w0 w1 (Own3 db mb tb)) := Lib.hid (by first | exact hk1 | exact (Kept.drew _ _).trans hk1); clear hd1 hk1; go_wp2_with fail
  refine step_post nofun ?_
  refine stage_heads [7] (by kernel_rfl) (L := #[true, true, true, true, true, true, true, true]) (by kernel_rfl) (f' := 0) rfl (fun _ _ _ _ h => h) (fun w o h => ST.alloc h o) (.inl (by kernel_rfl)) ?_
  simp only [List.flatMap_cons, List.flatMap_nil, List.drop_succ_cons, List.drop_zero, List.take_succ_cons, List.take_zero, List.append_nil]
  iterate 1 (refine heads_pure _ (by rfl) (fun w' => by go_simp; try with_reducible rfl) ?_; simp only [Act.put, List.setIfInBounds_toArray, List.set_cons_zero, List.set_cons_succ])
  refine heads_nil ?_
  refine stage_done (by kernel_rfl) ?_
  clear ST
  have HB1 := Lib.hid (HB0.out.kept K01.out (fun h => NO.out h))
  have HS1 : Hid (SRow w1 3 (.slice a0 m0 c0) (D.files.map rfV)) := Lib.hid (HS0.out.kept K01.out (.inr fun b hb h => AP0.out b hb (.inl h)))
  have HI1 := Lib.hid (HI0.out.keptIf K01.out (fun e b hb h => AM0.out e b hb (.inl h)) (fun e b hb h => AD0.out e b hb (.inl h)))
  have HX1 := Lib.hid (HX0.out.keptIf K01.out (fun e b hb h => HXM.out e b hb (.inl h)) (fun e b hb h => HXD.out e b hb (.inl h)))
  have HO1 := Lib.hid (HO0.out.kept K01.out (fun h => by have := HLO.out _ (.inl h); omega))
  have HT1 := Lib.hid (HT00.out.keptIf27 K01.out (HTA.out.imp id fun h b hb e => h b hb (.inl e)))
  have K1 : Hid (Kept w w1 (fun k => Own3 db mb tb k ∨ k = bo ∨ k = sb)) := Lib.hid (K0.out.trans (K01.out.mono fun _ _ h => .inl h))
  have HK1 := Lib.hid (HK0.out.kept K01.out)
  clear HB0 HS0 HK0 HO0 HT00 K0 K01 HD0 HP0 HI0 HX0
  have ST := Stable.from w1
  go_wp2_with fail
  have GA := G0.out.arm n HN0.out
  have SA : (armD D n).1.steps ≤ D.steps + 4 := by rw [(armD_same D n).2.2]; omega
  have FA : SFile (armD D n).1 S := HFI.out.find (by rw [(armD_same D n).1])
  refine region_start [0, 0, 2, 6, 14, 0, 32, 126, 254, 510, 510, 1023, 3071, 7167, 16383] 0 (fun w' => Below w1.heap.size w1 w') (by kernel_rfl) ?_
  refine stage_heads [0, 1, 2, 3, 4, 5, 6] (by kernel_rfl) (L := #[true, true, true, true, true, true, true, false, false, false, false, false, false, false, false]) (by kernel_rfl) (f' := 8) rfl (fun _ _ _ _ h => h) (fun w o h => ST.alloc h o) (.inr (by first | exact (Below.refl _ _).drew | exact Below.refl _ _)) ?_
  simp only [List.flatMap_cons, List.flatMap_nil, List.drop_succ_cons, List.drop_zero, List.take_succ_cons, List.take_zero, List.cons_append, List.nil_append, List.append_nil]
  iterate 7 (first | (refine heads_load _ (by rfl) (fun w' hs => by obtain ⟨q0, q1, q2, q3, q4, q5, q6, q7, q8, q9, qx, _⟩ := HB1.out.below hs; obtain ⟨x0, x1, x2, x3, x4, x5, x6⟩ := HO1.out.below hs; rw [Nat.zero_add] at x1 x2 x3 x4 x5 x6; go_simp; try with_reducible rfl) rfl ?_; simp only [Act.put, List.setIfInBounds_toArray, List.set_cons_zero, List.set_cons_succ]) | (refine heads_pure _ (by rfl) (fun w' => by go_simp; try with_reducible rfl) ?_; simp only [Act.put, List.setIfInBounds_toArray, List.set_cons_zero, List.set_cons_succ]))
  refine heads_nil ?_
  refine stage_op 7 (by kernel_rfl) (L := #[true, true, true, true, true, true, true, true, false, false, false, false, false, false, false]) (by kernel_rfl) ?_
  simp only [List.drop_succ_cons, List.drop_zero, List.take_succ_cons, List.take_zero]
  go_wp2_with fail; refine (rarm_new _ D n _ (RIs.new HNP.out (HS1.out.below ((Below.refl _ _).drew)))).mono ?_; rintro e w2 ⟨v2, rfl, hr2, hb2, hf2⟩; have I2 : Hid (Below w1.heap.size w1 w2) := Lib.hid (((Below.refl _ _).drew).trans hb2); obtain ⟨r, hr⟩ : ∃ r, armD D n = r := ⟨_, rfl⟩; have HR3 := Lib.hid hr; rw [hr] at hr2 HD1 GA SA FA ⊢; obtain ⟨D3, e3⟩ := r; simp only at hr2 HD1 GA SA FA ⊢; obtain ⟨a3, c3, rfl, hs2⟩ := hr2; obtain ⟨m3, hm3⟩ : ∃ k, D3.files.length = k := ⟨_, rfl⟩; have HN3 := Lib.hid hm3; rw [hm3] at hs2 hf2 ⊢; have HS2 := Lib.hid hs2; have AP3 : Hid (∀ b, (Value.slice a3 m3 c3).ownBlock = some b → ¬ (Own3 db mb tb b ∨ b = bo ∨ b = sb)) := Lib.hid (fun b hb e => (hf2 b hb).elim (fun h => AP0.out b h e) (fun h => by have h1 := HLO.out b e; have h2 := K1.out.size; have h3 : w1.heap.size ≤ b := h; omega)); clear hr hs2 hf2 hm3 hb2; go_wp2_with fail
  refine step_post nofun ?_
  refine stage_heads [8, 9, 10, 11, 12] (by kernel_rfl) (L := #[true, true, true, true, true, true, true, true, true, true, true, true, true, false, false]) (by kernel_rfl) (f' := 2) rfl (fun _ _ _ _ h => h) (fun w o h => ST.alloc h o) (.inl (by kernel_rfl)) ?_
  simp only [List.flatMap_cons, List.flatMap_nil, List.drop_succ_cons, List.drop_zero, List.take_succ_cons, List.take_zero, List.cons_append, List.nil_append, List.append_nil]
  iterate 5 (refine heads_pure _ (by rfl) (fun w' => by go_simp; try with_reducible rfl) ?_; simp only [Act.put, List.setIfInBounds_toArray, List.set_cons_zero, List.set_cons_succ])
  refine heads_nil ?_
  refine stage_op 13 (by kernel_rfl) (L := #[true, true, true, true, true, true, true, true, true, true, true, true, true, true, false]) (by kernel_rfl) ?_
  simp only [List.drop_succ_cons, List.drop_zero, List.take_succ_cons, List.take_zero]
  have HB2 := Lib.hid (HB1.out.below I2.out); obtain ⟨q0, q1, q2, q3, q4, q5, q6, _, _, _, _, fz⟩ := HB2.out; have g2 := fz 2 (by omega) (by omega); have g3 := fz 3 (by omega) (by omega); have g4 := fz 4 (by omega) (by omega); have g5 := fz 5 (by omega) (by omega); have g6 := fz 6 (by omega) (by omega); go_wp2_with fail
  refine step_post nofun ?_
  refine stage_heads [14] (by kernel_rfl) (L := #[true, true, true, true, true, true, true, true, true, true, true, true, true, true, true]) (by kernel_rfl) (f' := 0) rfl (fun _ _ _ _ h => h) (fun w o h => ST.alloc h o) (.inl (by kernel_rfl)) ?_
  simp only [List.flatMap_cons, List.flatMap_nil, List.drop_succ_cons, List.drop_zero, List.take_succ_cons, List.take_zero, List.append_nil]
  iterate 1 (refine heads_pure _ (by rfl) (fun w' => by go_simp; try with_reducible rfl) ?_; simp only [Act.put, List.setIfInBounds_toArray, List.set_cons_zero, List.set_cons_succ])
  refine heads_nil ?_
  refine stage_done (by kernel_rfl) ?_
  clear q0 q1 q2 q3 q4 q5 q6 g2 g3 g4 g5 g6 fz
  have HB3a := HB2.out.setD D3 (.slice a3 m3 c3)
  have HD3a := (HD1.out.below I2.out).setPair HB2.out.bo NO.out D3 (.slice a3 m3 c3)
  have HS3a := HS2.out.setPair HB2.out.bo D3 (.slice a3 m3 c3)
  have KB := Kept.setBO w2 bo D3 (.slice a3 m3 c3)
  have HK3a := (HK1.out.below I2.out).keptOff KB (fun k h => .inr (by rw [show k = bo from h]; exact NBO.out))
  have HI3a := (HI1.out.below I2.out).keptIf KB (fun e b hb h => AM0.out e b hb (.inr (.inl h))) (fun e b hb h => AD0.out e b hb (.inr (.inl h)))
  have HO3a := (HO1.out.below I2.out).kept KB (fun h => by have := HLO.out bo (.inr (.inl rfl)); omega)
  have HT3a := (HT1.out.below I2.out).keptIf27 KB (HTA.out.imp id fun h b hb e => h b hb (.inr (.inl e)))
  have K3a := (K1.out.trans (Kept.of_below I2.out (fun k h1 h2 => by omega))).trans (KB.mono fun k _ h => .inr (.inl h))
  unfold setBO at HB3a HD3a HS3a HK3a HI3a HO3a HT3a K3a
  generalize World.setCell _ _ _ = w3 at *
  have G3 := Lib.hid GA
  have ZS3 := Lib.hid SA
  have HF3 := Lib.hid FA
  have HB3 := Lib.hid HB3a
  have HD3 := Lib.hid HD3a
  have HS3 := Lib.hid HS3a
  have HK3 := Lib.hid HK3a
  have HI3 := Lib.hid HI3a
  have HO3 := Lib.hid HO3a
  have HT3 := Lib.hid HT3a
  have K3 : Hid (Kept w w3 (fun k => Own3 db mb tb k ∨ k = bo ∨ k = sb)) := Lib.hid K3a
  clear KB HB3a HD3a HS3a HK3a HI3a HO3a HT3a K3a HB1 HD1 HS1 HK1 HO1 HT1 K1 HS2 HB2 HI1 HX1 ST GA SA FA
  obtain ⟨S3, hS3⟩ : ∃ x, S = x := ⟨_, rfl⟩
  obtain ⟨om, hom⟩ : ∃ x, am = x := ⟨_, rfl⟩
  obtain ⟨onn, honn⟩ : ∃ x, nm = x := ⟨_, rfl⟩
  obtain ⟨oc, hoc⟩ : ∃ x, cm = x := ⟨_, rfl⟩
  obtain ⟨od, hod⟩ : ∃ x, ad = x := ⟨_, rfl⟩
  obtain ⟨oe, hoe⟩ : ∃ x, nd = x := ⟨_, rfl⟩
  obtain ⟨of_, hof⟩ : ∃ x, cd = x := ⟨_, rfl⟩
  have AM3 := AM0
  have AD3 := AD0
  rw [hS3, hom, honn, hoc] at AM3
  rw [hS3, hod, hoe, hof] at AD3
  rw [hS3, hom, honn, hoc, hod, hoe, hof] at HB3 HI3
  rw [hS3] at HK3 HF3
  clear hS3 hom honn hoc hod hoe hof AM0 AD0
  obtain ⟨dn, hdd⟩ : ∃ x, D3.down = x := ⟨_, rfl⟩
  have HDD := Lib.hid hdd
  clear hdd
  have e1 : ((e3 : Int) != (e3 : Int)) = false := bne_self_eq_false _
  have e2 : (dn != dn) = false := bne_self_eq_false _
  have ST := Stable.from w3
  go_wp2_with fail
  refine region_start [0, 0, 3, 7, 15, 31, 63, 127, 255, 15, 527, 1551, 3599, 7695, 16383, 32767] 256 (fun w' => Below w3.heap.size w3 w') (by kernel_rfl) ?_
  refine stage_heads [0, 1, 2, 3, 4, 5, 6, 7, 9, 10, 11, 12, 13] (by kernel_rfl) (L := #[true, true, true, true, true, true, true, true, false, true, true, true, true, true, false, false]) (by kernel_rfl) (f' := 3) rfl (fun _ _ _ _ h => h) (fun w o h => ST.alloc h o) (.inr (by first | exact (Below.refl _ _).drew | exact Below.refl _ _)) ?_
  simp only [List.flatMap_cons, List.flatMap_nil, List.drop_succ_cons, List.drop_zero, List.take_succ_cons, List.take_zero, List.cons_append, List.nil_append, List.append_nil]
  iterate 13 (first | (refine heads_load _ (by rfl) (fun w' hs => by obtain ⟨q0, q1, q2, q3, q4, q5, q6, q7, q8, q9, qx, _⟩ := HB3.out.below hs; rw [HDD.out] at q4; go_simp; try with_reducible rfl) rfl ?_; simp only [Act.put, List.setIfInBounds_toArray, List.set_cons_zero, List.set_cons_succ]) | (refine heads_pure _ (by rfl) (fun w' => by go_simp; try with_reducible rfl) ?_; simp only [Act.put, List.setIfInBounds_toArray, List.set_cons_zero, List.set_cons_succ]) | (refine heads_skip (by rfl) ?_; simp only [Act.put, List.setIfInBounds_toArray, List.set_cons_zero, List.set_cons_succ]))
  refine heads_nil ?_
  refine stage_op 8 (by kernel_rfl) (L := #[true, true, true, true, true, true, true, true, true, true, true, true, true, true, false, false]) (by kernel_rfl) ?_
  simp only [List.drop_succ_cons, List.drop_zero, List.take_succ_cons, List.take_zero]
  go_wp2_with fail; refine (ddown_any db mb tb D3 _ (by first | exact HD3.out.below ((Below.refl _ _).drew) | exact HD3.out)).mono ?_; rintro e w4 ⟨rfl, rfl⟩; rw [HDD.out]; go_wp2_with fail
  refine step_post (fun _ => (Below.refl _ _).drew) ?_
  refine stage_heads [14, 15] (by kernel_rfl) (L := #[true, true, true, true, true, true, true, true, true, true, true, true, true, true, true, true]) (by kernel_rfl) (f' := 0) rfl (fun _ _ _ _ h => h) (fun w o h => ST.alloc h o) (.inl (by kernel_rfl)) ?_
  simp only [List.flatMap_cons, List.flatMap_nil, List.drop_succ_cons, List.drop_zero, List.take_succ_cons, List.take_zero, List.cons_append, List.nil_append, List.append_nil]
  iterate 2 (first | (refine heads_pure _ (by rfl) (fun w' => by go_simp; try with_reducible rfl) ?_; simp only [Act.put, List.setIfInBounds_toArray, List.set_cons_zero, List.set_cons_succ]) | (refine heads_skip (by rfl) ?_; simp only [Act.put, List.setIfInBounds_toArray, List.set_cons_zero, List.set_cons_succ]))
  refine heads_nil ?_
  refine stage_done (by kernel_rfl) ?_
  have BD : Below w3.heap.size w3 w3.drew := (Below.refl _ _).drew
  have HD5 := Lib.hid (HD3.out.below BD)
  have HB5 := Lib.hid (HB3.out.below BD)
  have HS5 := Lib.hid (HS3.out.below BD)
  have HI5 := Lib.hid (HI3.out.below BD)
  have HK5 := Lib.hid (HK3.out.below BD)
  have HO5 := Lib.hid (HO3.out.below BD)
  have HT5 := Lib.hid (HT3.out.below BD)
  have K5 : Hid (Kept w w3.drew (fun k => Own3 db mb tb k ∨ k = bo ∨ k = sb)) := Lib.hid (K3.out.trans (Kept.drew _ _))
  clear BD ST HD3 HB3 HS3 HK3 HO3 HT3 HI3 K3
  generalize w3.drew = w5 at *
  obtain ⟨q0, q1, q2, q3, q4, q5, q6, q7, q8, q9, qx, _⟩ := HB5.out
  rw [HDD.out] at q4
  cases dn
  · have HUP : Hid (D3.down = false) := HDD
    go_wp2_with fail
    go_ret
    exact ⟨rfl, sb, D3, S3, ⟨HD5.out, G3.out, ⟨a3, m3, c3, om, onn, oc, od, oe, of_, HN3.out, HB5.out, HS5.out, HI5.out, fun b hb => (HFQ.out b).2 (AP3.out b hb), fun e b hb => (HFQ.out b).2 (AM3.out e b hb), fun e b hb => (HFQ.out b).2 (AD3.out e b hb)⟩, NO.out, HF3.out⟩, HK5.out, NB.out, NBO.out, .inl rfl, HUP.out, by have := ZS3.out; omega, K5.out⟩
  · obtain ⟨x0, x1, x2, x3, x4, x5, x6⟩ := HO5.out
    rw [Nat.zero_add] at x1 x2 x3 x4 x5 x6
    go_wp2_with fail
    refine (sreopen_any bo db mb tb (some ⟨sb, 0, none⟩) D3 S3 _ ts w5 ⟨HD5.out, G3.out, ⟨a3, m3, c3, om, onn, oc, od, oe, of_, HN3.out, HB5.out, HS5.out, HI5.out, fun b hb => (HFQ.out b).2 (AP3.out b hb), fun e b hb => (HFQ.out b).2 (AM3.out e b hb), fun e b hb => (HFQ.out b).2 (AD3.out e b hb)⟩, NO.out, HF3.out⟩ HT5.out HTM.out (HTA.out.imp id (fun h b hb e => h b hb (.inl e))) (by have := ZS3.out; have := HST.out; omega)).mono ?_
    rintro e w6 ⟨rfl, bc, hp6, hk6, hbc, hco, hnc, hK6⟩
    have PP := Lib.hid (And.intro hp6 (And.intro hk6 (And.intro hnc hco)))
    have BC : Hid (w.heap.size ≤ bc) := Lib.hid (Nat.le_trans K5.out.size hbc)
    have K6 : Hid (Kept w w6 (fun k => Own3 db mb tb k ∨ k = bo ∨ k = sb)) := Lib.hid (K5.out.trans (hK6.mono fun k _ h => h.imp id .inl))
    have HCA : Hid ((reG D3 ts).down = false) := Lib.hid (calm_gone (calm_boot27 _))
    have HSR := Lib.hid (reG_good G3.out ts (by have := ZS3.out; have := HST.out; omega)).2
    clear hp6 hk6 hbc hnc hco hK6 x0 x1 x2 x3 x4 x5 x6
    go_wp2_with fail
    go_ret
    exact ⟨rfl, bc, reG D3 ts, S3, PP.out.1, PP.out.2.1, PP.out.2.2.1, PP.out.2.2.2, .inr BC.out, HCA.out, by have h1 := HSR.out; have h2 := ZS3.out; omega, K6.out⟩
set_option maxHeartbeats 4000000 in
set_option maxRecDepth 20000 in
theorem sdo_resize (bo db mb tb sb : Nat) (D : DiskS) (S x : SnapS) (k n : Int) (ya za ta : Option Addr) (yn yc zn zc tn tc : Nat) (ts : List (Nat × Nat)) (w : World) (h : PairS w bo db mb tb (some ⟨sb, 0, none⟩) D S) (hk : StoreL w sb db mb tb S) (hnb : ¬ Own3 db mb tb sb) (hbo : bo < sb) (hdn : D.down = false) (hx : SnapIs w (.agg #[.int .u64 x.i, .int .u64 x.t, .slice ya yn yc, .slice za zn zc]) x) (hxm : x.ms ≠ [] → ∀ b, (Value.slice ya yn yc).ownBlock = some b → ¬ (Own3 db mb tb b ∨ b = bo ∨ b = sb)) (hxd : x.d ≠ [] → ∀ b, (Value.slice za zn zc).ownBlock = some b → ¬ (Own3 db mb tb b ∨ b = bo ∨ b = sb)) (hT : TearsIs w (.slice ta tn tc) ts) (htn : ts.length = tn) (htm : ts.length ≤ 1000) (hta : ts = [] ∨ ∀ b, (Value.slice ta tn tc).ownBlock = some b → ¬ (Own3 db mb tb b ∨ b = bo ∨ b = sb)) (hn0 : n ≤ 9223372036854775807) (hst : D.steps + 5 ≤ 1000000000) (hk1 : k = 3) :
    Calls Tryz.prog 28 #[.pointer (some ⟨bo, 0, none⟩), .agg #[.int .i64 k, .int .i64 n, .int .u64 x.i, .int .u64 x.t, .slice ya yn yc, .slice za zn zc, .slice ta tn tc]] w (SDoPost bo db mb tb sb D w) := by
  subst hk1
  have LO : ∀ k, (Own3 db mb tb k ∨ k = bo ∨ k = sb) → k < w.heap.size := by
    obtain ⟨_, _, _, _, _, _, _, _, _, _, hb, _⟩ := h.sl
    rintro k (h1 | rfl | rfl)
    · exact h.disk.lt3 k h1
    · exact hb.lt
    · exact hk.lt
  have HLO := Lib.hid LO
  have NB := Lib.hid hnb
  have NBO := Lib.hid hbo
  have HDN := Lib.hid hdn
  have HXM := Lib.hid hxm
  have HXD := Lib.hid hxd
  have HTA := Lib.hid hta
  have HTM := Lib.hid htm
  have HTN := Lib.hid htn
  have HN0 := Lib.hid hn0
  have HST := Lib.hid hst
  have AX : Below w.heap.size w (w.alloc (.cells #[.int .i64 3, .int .i64 n, .int .u64 x.i, .int .u64 x.t, .slice ya yn yc, .slice za zn zc, .slice ta tn tc] 76)) := (Below.refl _ _).alloc (Nat.le_refl _) _
  have HPX := h.below AX
  have HKX := hk.below AX
  have HTX := hT.below AX
  have HIX := hx.below AX
  have HOY : SC27 (w.alloc (.cells #[.int .i64 3, .int .i64 n, .int .u64 x.i, .int .u64 x.t, .slice ya yn yc, .slice za zn zc, .slice ta tn tc] 76)) w.heap.size 0 (⟨3, n, x.i, x.t, ya, yn, yc, za, zn, zc, .slice ta tn tc, ts⟩ : SOp) := SC27.box w (⟨3, n, x.i, x.t, ya, yn, yc, za, zn, zc, .slice ta tn tc, ts⟩ : SOp)
  clear h hk hnb hbo hdn hT htm htn hta hn0 hst LO hx hxm hxd
  go_enter Tryz.func28, Tryz.ntmps28
  have HOZ := Lib.hid HOY
  obtain ⟨x0, x1, x2, x3, x4, x5, x6⟩ := HOY
  rw [Nat.zero_add] at x1 x2 x3 x4 x5 x6
  go_wp2_with fail
  clear x0 x1 x2 x3 x4 x5 x6
  generalize World.alloc w _ = w0 at *
  have HP0 := Lib.hid HPX
  have HK0 := Lib.hid HKX
  have HT00 := Lib.hid HTX
  have HX0 := Lib.hid HIX
  have HO0 := HOZ
  have K0 : Hid (Kept w w0 (fun k => Own3 db mb tb k ∨ k = bo ∨ k = sb)) := Lib.hid (Kept.of_below AX (fun k h1 h2 => by omega))
  have Z0 : Hid (w.heap.size < w0.heap.size) := Lib.hid (World.block_lt_of_cell? _ _ HOZ.out.c0)
  clear AX HPX HKX HTX HIX
  obtain ⟨hd, hg, ⟨a0, m0, c0, am, nm, cm, ad, nd, cd, hn, hb, hs, hi, hap, ham, had⟩, hno, hfile⟩ := HP0.out
  have HD0 := Lib.hid hd
  have G0 := Lib.hid hg
  have HNP := Lib.hid hn
  have HB0 := Lib.hid hb
  have HS0 := Lib.hid hs
  have HI0 := Lib.hid hi
  have HFI := Lib.hid hfile
  have HFQ : Hid (∀ b, FarP bo db mb tb (some ⟨sb, 0, none⟩) b ↔ ¬ (Own3 db mb tb b ∨ b = bo ∨ b = sb)) := Lib.hid (fun b => ⟨fun ⟨h1, h2, h3⟩ e => by
      rcases e with e | e | e
      · exact h1 e
      · exact h2 e
      · exact h3 _ rfl e.symm, fun h => ⟨fun e => h (.inl e), fun e => h (.inr (.inl e)), fun q hq e => h (.inr (.inr (by obtain rfl := Option.some.inj hq; exact e.symm)))⟩⟩)
  have AP0 : Hid (∀ b, (Value.slice a0 m0 c0).ownBlock = some b → ¬ (Own3 db mb tb b ∨ b = bo ∨ b = sb)) := Lib.hid (fun b h => (HFQ.out b).1 (hap b h))
  have AM0 : Hid (S.ms ≠ [] → ∀ b, (Value.slice am nm cm).ownBlock = some b → ¬ (Own3 db mb tb b ∨ b = bo ∨ b = sb)) := Lib.hid (fun e b h => (HFQ.out b).1 (ham e b h))
  have AD0 : Hid (S.d ≠ [] → ∀ b, (Value.slice ad nd cd).ownBlock = some b → ¬ (Own3 db mb tb b ∨ b = bo ∨ b = sb)) := Lib.hid (fun e b h => (HFQ.out b).1 (had e b h))
  have NO := Lib.hid hno
  clear hd hg hn hb hs hi hap ham had hno hfile
  have ST := Stable.from w0
  refine region_start [0, 1, 3, 7, 0, 16, 63, 127] 0 (fun w' => Below w0.heap.size w0 w') (by kernel_rfl) ?_
  refine stage_heads [0, 1, 2, 3, 4, 5] (by kernel_rfl) (L := #[true, true, true, true, true, true, false, false]) (by kernel_rfl) (f' := 2) rfl (fun _ _ _ _ h => h) (fun w o h => ST.alloc h o) (.inr (by first | exact (Below.refl _ _).drew | exact Below.refl _ _)) ?_
  simp only [List.flatMap_cons, List.flatMap_nil, List.drop_succ_cons, List.drop_zero, List.take_succ_cons, List.take_zero, List.cons_append, List.nil_append, List.append_nil]
  iterate 6 (first | (refine heads_load _ (by rfl) (fun w' hs => by obtain ⟨q0, _⟩ := HB0.out.below hs; obtain ⟨x0, x1, x2, x3, x4, x5, x6⟩ := HO0.out.below hs; rw [Nat.zero_add] at x1 x2 x3 x4 x5 x6; go_simp; try with_reducible rfl) rfl ?_; simp only [Act.put, List.setIfInBounds_toArray, List.set_cons_zero, List.set_cons_succ]) | (refine heads_pure _ (by rfl) (fun w' => by go_simp; try with_reducible rfl) ?_; simp only [Act.put, List.setIfInBounds_toArray, List.set_cons_zero, List.set_cons_succ]))
  refine heads_nil ?_
  refine stage_op 6 (by kernel_rfl) (L := #[true, true, true, true, true, true, true, false]) (by kernel_rfl) ?_
  simp only [List.drop_succ_cons, List.drop_zero, List.take_succ_cons, List.take_zero]
  go_wp2_with fail; refine (dresize_any db mb tb D n _ (by first | exact HD0.out.below ((Below.refl _ _).drew) | exact HD0.out)).mono ?_; rintro e w1 ⟨rfl, hd1, hk1⟩; have HD1 := Lib.hid hd1; have K01 : Hid (Kept w0 w1 (Own3 db mb tb)) := Lib.hid (by first | exact hk1 | exact (Kept.drew _ _).trans hk1); clear hd1 hk1; go_wp2_with fail
  refine step_post nofun ?_
  refine stage_heads [7] (by kernel_rfl) (L := #[true, true, true, true, true, true, true, true]) (by kernel_rfl) (f' := 0) rfl (fun _ _ _ _ h => h) (fun w o h => ST.alloc h o) (.inl (by kernel_rfl)) ?_
  simp only [List.flatMap_cons, List.flatMap_nil, List.drop_succ_cons, List.drop_zero, List.take_succ_cons, List.take_zero, List.append_nil]
  iterate 1 (refine heads_pure _ (by rfl) (fun w' => by go_simp; try with_reducible rfl) ?_; simp only [Act.put, List.setIfInBounds_toArray, List.set_cons_zero, List.set_cons_succ])
  refine heads_nil ?_
  refine stage_done (by kernel_rfl) ?_
  clear ST
  have HB1 := Lib.hid (HB0.out.kept K01.out (fun h => NO.out h))
  have HS1 : Hid (SRow w1 3 (.slice a0 m0 c0) (D.files.map rfV)) := Lib.hid (HS0.out.kept K01.out (.inr fun b hb h => AP0.out b hb (.inl h)))
  have HI1 := Lib.hid (HI0.out.keptIf K01.out (fun e b hb h => AM0.out e b hb (.inl h)) (fun e b hb h => AD0.out e b hb (.inl h)))
  have HX1 := Lib.hid (HX0.out.keptIf K01.out (fun e b hb h => HXM.out e b hb (.inl h)) (fun e b hb h => HXD.out e b hb (.inl h)))
  have HO1 := Lib.hid (HO0.out.kept K01.out (fun h => by have := HLO.out _ (.inl h); omega))
  have HT1 := Lib.hid (HT00.out.keptIf27 K01.out (HTA.out.imp id fun h b hb e => h b hb (.inl e)))
  have K1 : Hid (Kept w w1 (fun k => Own3 db mb tb k ∨ k = bo ∨ k = sb)) := Lib.hid (K0.out.trans (K01.out.mono fun _ _ h => .inl h))
  have HK1 := Lib.hid (HK0.out.kept K01.out)
  clear HB0 HS0 HK0 HO0 HT00 K0 K01 HD0 HP0 HI0 HX0
  have ST := Stable.from w1
  go_wp2_with fail
  have GA := G0.out.resize n
  have SA : (resizeD D n).1.steps ≤ D.steps + 4 := by rw [(resizeD_same D n).2.2]; omega
  have FA : SFile (resizeD D n).1 S := HFI.out.find (by rw [(resizeD_same D n).1])
  refine region_start [0, 0, 2, 6, 14, 0, 32, 126, 254, 510, 510, 1023, 3071, 7167, 16383] 0 (fun w' => Below w1.heap.size w1 w') (by kernel_rfl) ?_
  refine stage_heads [0, 1, 2, 3, 4, 5, 6] (by kernel_rfl) (L := #[true, true, true, true, true, true, true, false, false, false, false, false, false, false, false]) (by kernel_rfl) (f' := 8) rfl (fun _ _ _ _ h => h) (fun w o h => ST.alloc h o) (.inr (by first | exact (Below.refl _ _).drew | exact Below.refl _ _)) ?_
  simp only [List.flatMap_cons, List.flatMap_nil, List.drop_succ_cons, List.drop_zero, List.take_succ_cons, List.take_zero, List.cons_append, List.nil_append, List.append_nil]
  iterate 7 (first | (refine heads_load _ (by rfl) (fun w' hs => by obtain ⟨q0, q1, q2, q3, q4, q5, q6, q7, q8, q9, qx, _⟩ := HB1.out.below hs; obtain ⟨x0, x1, x2, x3, x4, x5, x6⟩ := HO1.out.below hs; rw [Nat.zero_add] at x1 x2 x3 x4 x5 x6; go_simp; try with_reducible rfl) rfl ?_; simp only [Act.put, List.setIfInBounds_toArray, List.set_cons_zero, List.set_cons_succ]) | (refine heads_pure _ (by rfl) (fun w' => by go_simp; try with_reducible rfl) ?_; simp only [Act.put, List.setIfInBounds_toArray, List.set_cons_zero, List.set_cons_succ]))
  refine heads_nil ?_
  refine stage_op 7 (by kernel_rfl) (L := #[true, true, true, true, true, true, true, true, false, false, false, false, false, false, false]) (by kernel_rfl) ?_
  simp only [List.drop_succ_cons, List.drop_zero, List.take_succ_cons, List.take_zero]
  go_wp2_with fail; refine (rresize_new _ D n _ (RIs.new HNP.out (HS1.out.below ((Below.refl _ _).drew)))).mono ?_; rintro e w2 ⟨v2, rfl, hr2, hb2, hf2⟩; have I2 : Hid (Below w1.heap.size w1 w2) := Lib.hid (((Below.refl _ _).drew).trans hb2); obtain ⟨r, hr⟩ : ∃ r, resizeD D n = r := ⟨_, rfl⟩; have HR3 := Lib.hid hr; rw [hr] at hr2 HD1 GA SA FA ⊢; obtain ⟨D3, e3⟩ := r; simp only at hr2 HD1 GA SA FA ⊢; obtain ⟨a3, c3, rfl, hs2⟩ := hr2; obtain ⟨m3, hm3⟩ : ∃ k, D3.files.length = k := ⟨_, rfl⟩; have HN3 := Lib.hid hm3; rw [hm3] at hs2 hf2 ⊢; have HS2 := Lib.hid hs2; have AP3 : Hid (∀ b, (Value.slice a3 m3 c3).ownBlock = some b → ¬ (Own3 db mb tb b ∨ b = bo ∨ b = sb)) := Lib.hid (fun b hb e => (hf2 b hb).elim (fun h => AP0.out b h e) (fun h => by have h1 := HLO.out b e; have h2 := K1.out.size; have h3 : w1.heap.size ≤ b := h; omega)); clear hr hs2 hf2 hm3 hb2; go_wp2_with fail
  refine step_post nofun ?_
  refine stage_heads [8, 9, 10, 11, 12] (by kernel_rfl) (L := #[true, true, true, true, true, true, true, true, true, true, true, true, true, false, false]) (by kernel_rfl) (f' := 2) rfl (fun _ _ _ _ h => h) (fun w o h => ST.alloc h o) (.inl (by kernel_rfl)) ?_
  simp only [List.flatMap_cons, List.flatMap_nil, List.drop_succ_cons, List.drop_zero, List.take_succ_cons, List.take_zero, List.cons_append, List.nil_append, List.append_nil]
  iterate 5 (refine heads_pure _ (by rfl) (fun w' => by go_simp; try with_reducible rfl) ?_; simp only [Act.put, List.setIfInBounds_toArray, List.set_cons_zero, List.set_cons_succ])
  refine heads_nil ?_
  refine stage_op 13 (by kernel_rfl) (L := #[true, true, true, true, true, true, true, true, true, true, true, true, true, true, false]) (by kernel_rfl) ?_
  simp only [List.drop_succ_cons, List.drop_zero, List.take_succ_cons, List.take_zero]
  have HB2 := Lib.hid (HB1.out.below I2.out); obtain ⟨q0, q1, q2, q3, q4, q5, q6, _, _, _, _, fz⟩ := HB2.out; have g2 := fz 2 (by omega) (by omega); have g3 := fz 3 (by omega) (by omega); have g4 := fz 4 (by omega) (by omega); have g5 := fz 5 (by omega) (by omega); have g6 := fz 6 (by omega) (by omega); go_wp2_with fail
  refine step_post nofun ?_
  refine stage_heads [14] (by kernel_rfl) (L := #[true, true, true, true, true, true, true, true, true, true, true, true, true, true, true]) (by kernel_rfl) (f' := 0) rfl (fun _ _ _ _ h => h) (fun w o h => ST.alloc h o) (.inl (by kernel_rfl)) ?_
  simp only [List.flatMap_cons, List.flatMap_nil, List.drop_succ_cons, List.drop_zero, List.take_succ_cons, List.take_zero, List.append_nil]
  iterate 1 (refine heads_pure _ (by rfl) (fun w' => by go_simp; try with_reducible rfl) ?_; simp only [Act.put, List.setIfInBounds_toArray, List.set_cons_zero, List.set_cons_succ])
  refine heads_nil ?_
  refine stage_done (by kernel_rfl) ?_
  clear q0 q1 q2 q3 q4 q5 q6 g2 g3 g4 g5 g6 fz
  have HB3a := HB2.out.setD D3 (.slice a3 m3 c3)
  have HD3a := (HD1.out.below I2.out).setPair HB2.out.bo NO.out D3 (.slice a3 m3 c3)
  have HS3a := HS2.out.setPair HB2.out.bo D3 (.slice a3 m3 c3)
  have KB := Kept.setBO w2 bo D3 (.slice a3 m3 c3)
  have HK3a := (HK1.out.below I2.out).keptOff KB (fun k h => .inr (by rw [show k = bo from h]; exact NBO.out))
  have HI3a := (HI1.out.below I2.out).keptIf KB (fun e b hb h => AM0.out e b hb (.inr (.inl h))) (fun e b hb h => AD0.out e b hb (.inr (.inl h)))
  have HO3a := (HO1.out.below I2.out).kept KB (fun h => by have := HLO.out bo (.inr (.inl rfl)); omega)
  have HT3a := (HT1.out.below I2.out).keptIf27 KB (HTA.out.imp id fun h b hb e => h b hb (.inr (.inl e)))
  have K3a := (K1.out.trans (Kept.of_below I2.out (fun k h1 h2 => by omega))).trans (KB.mono fun k _ h => .inr (.inl h))
  unfold setBO at HB3a HD3a HS3a HK3a HI3a HO3a HT3a K3a
  generalize World.setCell _ _ _ = w3 at *
  have G3 := Lib.hid GA
  have ZS3 := Lib.hid SA
  have HF3 := Lib.hid FA
  have HB3 := Lib.hid HB3a
  have HD3 := Lib.hid HD3a
  have HS3 := Lib.hid HS3a
  have HK3 := Lib.hid HK3a
  have HI3 := Lib.hid HI3a
  have HO3 := Lib.hid HO3a
  have HT3 := Lib.hid HT3a
  have K3 : Hid (Kept w w3 (fun k => Own3 db mb tb k ∨ k = bo ∨ k = sb)) := Lib.hid K3a
  clear KB HB3a HD3a HS3a HK3a HI3a HO3a HT3a K3a HB1 HD1 HS1 HK1 HO1 HT1 K1 HS2 HB2 HI1 HX1 ST GA SA FA
  obtain ⟨S3, hS3⟩ : ∃ x, S = x := ⟨_, rfl⟩
  obtain ⟨om, hom⟩ : ∃ x, am = x := ⟨_, rfl⟩
  obtain ⟨onn, honn⟩ : ∃ x, nm = x := ⟨_, rfl⟩
  obtain ⟨oc, hoc⟩ : ∃ x, cm = x := ⟨_, rfl⟩
  obtain ⟨od, hod⟩ : ∃ x, ad = x := ⟨_, rfl⟩
  obtain ⟨oe, hoe⟩ : ∃ x, nd = x := ⟨_, rfl⟩
  obtain ⟨of_, hof⟩ : ∃ x, cd = x := ⟨_, rfl⟩
  have AM3 := AM0
  have AD3 := AD0
  rw [hS3, hom, honn, hoc] at AM3
  rw [hS3, hod, hoe, hof] at AD3
  rw [hS3, hom, honn, hoc, hod, hoe, hof] at HB3 HI3
  rw [hS3] at HK3 HF3
  clear hS3 hom honn hoc hod hoe hof AM0 AD0
  obtain ⟨dn, hdd⟩ : ∃ x, D3.down = x := ⟨_, rfl⟩
  have HDD := Lib.hid hdd
  clear hdd
  have e1 : ((e3 : Int) != (e3 : Int)) = false := bne_self_eq_false _
  have e2 : (dn != dn) = false := bne_self_eq_false _
  have ST := Stable.from w3
  go_wp2_with fail
  refine region_start [0, 0, 3, 7, 15, 31, 63, 127, 255, 15, 527, 1551, 3599, 7695, 16383, 32767] 256 (fun w' => Below w3.heap.size w3 w') (by kernel_rfl) ?_
  refine stage_heads [0, 1, 2, 3, 4, 5, 6, 7, 9, 10, 11, 12, 13] (by kernel_rfl) (L := #[true, true, true, true, true, true, true, true, false, true, true, true, true, true, false, false]) (by kernel_rfl) (f' := 3) rfl (fun _ _ _ _ h => h) (fun w o h => ST.alloc h o) (.inr (by first | exact (Below.refl _ _).drew | exact Below.refl _ _)) ?_
  simp only [List.flatMap_cons, List.flatMap_nil, List.drop_succ_cons, List.drop_zero, List.take_succ_cons, List.take_zero, List.cons_append, List.nil_append, List.append_nil]
  iterate 13 (first | (refine heads_load _ (by rfl) (fun w' hs => by obtain ⟨q0, q1, q2, q3, q4, q5, q6, q7, q8, q9, qx, _⟩ := HB3.out.below hs; rw [HDD.out] at q4; go_simp; try with_reducible rfl) rfl ?_; simp only [Act.put, List.setIfInBounds_toArray, List.set_cons_zero, List.set_cons_succ]) | (refine heads_pure _ (by rfl) (fun w' => by go_simp; try with_reducible rfl) ?_; simp only [Act.put, List.setIfInBounds_toArray, List.set_cons_zero, List.set_cons_succ]) | (refine heads_skip (by rfl) ?_; simp only [Act.put, List.setIfInBounds_toArray, List.set_cons_zero, List.set_cons_succ]))
  refine heads_nil ?_
  refine stage_op 8 (by kernel_rfl) (L := #[true, true, true, true, true, true, true, true, true, true, true, true, true, true, false, false]) (by kernel_rfl) ?_
  simp only [List.drop_succ_cons, List.drop_zero, List.take_succ_cons, List.take_zero]
  go_wp2_with fail; refine (ddown_any db mb tb D3 _ (by first | exact HD3.out.below ((Below.refl _ _).drew) | exact HD3.out)).mono ?_; rintro e w4 ⟨rfl, rfl⟩; rw [HDD.out]; go_wp2_with fail
  refine step_post (fun _ => (Below.refl _ _).drew) ?_
  refine stage_heads [14, 15] (by kernel_rfl) (L := #[true, true, true, true, true, true, true, true, true, true, true, true, true, true, true, true]) (by kernel_rfl) (f' := 0) rfl (fun _ _ _ _ h => h) (fun w o h => ST.alloc h o) (.inl (by kernel_rfl)) ?_
  simp only [List.flatMap_cons, List.flatMap_nil, List.drop_succ_cons, List.drop_zero, List.take_succ_cons, List.take_zero, List.cons_append, List.nil_append, List.append_nil]
  iterate 2 (first | (refine heads_pure _ (by rfl) (fun w' => by go_simp; try with_reducible rfl) ?_; simp only [Act.put, List.setIfInBounds_toArray, List.set_cons_zero, List.set_cons_succ]) | (refine heads_skip (by rfl) ?_; simp only [Act.put, List.setIfInBounds_toArray, List.set_cons_zero, List.set_cons_succ]))
  refine heads_nil ?_
  refine stage_done (by kernel_rfl) ?_
  have BD : Below w3.heap.size w3 w3.drew := (Below.refl _ _).drew
  have HD5 := Lib.hid (HD3.out.below BD)
  have HB5 := Lib.hid (HB3.out.below BD)
  have HS5 := Lib.hid (HS3.out.below BD)
  have HI5 := Lib.hid (HI3.out.below BD)
  have HK5 := Lib.hid (HK3.out.below BD)
  have HO5 := Lib.hid (HO3.out.below BD)
  have HT5 := Lib.hid (HT3.out.below BD)
  have K5 : Hid (Kept w w3.drew (fun k => Own3 db mb tb k ∨ k = bo ∨ k = sb)) := Lib.hid (K3.out.trans (Kept.drew _ _))
  clear BD ST HD3 HB3 HS3 HK3 HO3 HT3 HI3 K3
  generalize w3.drew = w5 at *
  obtain ⟨q0, q1, q2, q3, q4, q5, q6, q7, q8, q9, qx, _⟩ := HB5.out
  rw [HDD.out] at q4
  cases dn
  · have HUP : Hid (D3.down = false) := HDD
    go_wp2_with fail
    go_ret
    exact ⟨rfl, sb, D3, S3, ⟨HD5.out, G3.out, ⟨a3, m3, c3, om, onn, oc, od, oe, of_, HN3.out, HB5.out, HS5.out, HI5.out, fun b hb => (HFQ.out b).2 (AP3.out b hb), fun e b hb => (HFQ.out b).2 (AM3.out e b hb), fun e b hb => (HFQ.out b).2 (AD3.out e b hb)⟩, NO.out, HF3.out⟩, HK5.out, NB.out, NBO.out, .inl rfl, HUP.out, by have := ZS3.out; omega, K5.out⟩
  · obtain ⟨x0, x1, x2, x3, x4, x5, x6⟩ := HO5.out
    rw [Nat.zero_add] at x1 x2 x3 x4 x5 x6
    go_wp2_with fail
    refine (sreopen_any bo db mb tb (some ⟨sb, 0, none⟩) D3 S3 _ ts w5 ⟨HD5.out, G3.out, ⟨a3, m3, c3, om, onn, oc, od, oe, of_, HN3.out, HB5.out, HS5.out, HI5.out, fun b hb => (HFQ.out b).2 (AP3.out b hb), fun e b hb => (HFQ.out b).2 (AM3.out e b hb), fun e b hb => (HFQ.out b).2 (AD3.out e b hb)⟩, NO.out, HF3.out⟩ HT5.out HTM.out (HTA.out.imp id (fun h b hb e => h b hb (.inl e))) (by have := ZS3.out; have := HST.out; omega)).mono ?_
    rintro e w6 ⟨rfl, bc, hp6, hk6, hbc, hco, hnc, hK6⟩
    have PP := Lib.hid (And.intro hp6 (And.intro hk6 (And.intro hnc hco)))
    have BC : Hid (w.heap.size ≤ bc) := Lib.hid (Nat.le_trans K5.out.size hbc)
    have K6 : Hid (Kept w w6 (fun k => Own3 db mb tb k ∨ k = bo ∨ k = sb)) := Lib.hid (K5.out.trans (hK6.mono fun k _ h => h.imp id .inl))
    have HCA : Hid ((reG D3 ts).down = false) := Lib.hid (calm_gone (calm_boot27 _))
    have HSR := Lib.hid (reG_good G3.out ts (by have := ZS3.out; have := HST.out; omega)).2
    clear hp6 hk6 hbc hnc hco hK6 x0 x1 x2 x3 x4 x5 x6
    go_wp2_with fail
    go_ret
    exact ⟨rfl, bc, reG D3 ts, S3, PP.out.1, PP.out.2.1, PP.out.2.2.1, PP.out.2.2.2, .inr BC.out, HCA.out, by have h1 := HSR.out; have h2 := ZS3.out; omega, K6.out⟩
set_option maxHeartbeats 4000000 in
set_option maxRecDepth 20000 in
theorem sdo_save (bo db mb tb sb : Nat) (D : DiskS) (S x : SnapS) (k n : Int) (ya za ta : Option Addr) (yn yc zn zc tn tc : Nat) (ts : List (Nat × Nat)) (w : World) (h : PairS w bo db mb tb (some ⟨sb, 0, none⟩) D S) (hk : StoreL w sb db mb tb S) (hnb : ¬ Own3 db mb tb sb) (hbo : bo < sb) (hdn : D.down = false) (hx : SnapIs w (.agg #[.int .u64 x.i, .int .u64 x.t, .slice ya yn yc, .slice za zn zc]) x) (hxm : x.ms ≠ [] → ∀ b, (Value.slice ya yn yc).ownBlock = some b → ¬ (Own3 db mb tb b ∨ b = bo ∨ b = sb)) (hxd : x.d ≠ [] → ∀ b, (Value.slice za zn zc).ownBlock = some b → ¬ (Own3 db mb tb b ∨ b = bo ∨ b = sb)) (hT : TearsIs w (.slice ta tn tc) ts) (htn : ts.length = tn) (htm : ts.length ≤ 1000) (hta : ts = [] ∨ ∀ b, (Value.slice ta tn tc).ownBlock = some b → ¬ (Own3 db mb tb b ∨ b = bo ∨ b = sb)) (hn0 : n ≤ 9223372036854775807) (hst : D.steps + 5 ≤ 1000000000) (hk1 : k ≠ 1 ∧ k ≠ 2 ∧ k ≠ 3) :
    Calls Tryz.prog 28 #[.pointer (some ⟨bo, 0, none⟩), .agg #[.int .i64 k, .int .i64 n, .int .u64 x.i, .int .u64 x.t, .slice ya yn yc, .slice za zn zc, .slice ta tn tc]] w (SDoPost bo db mb tb sb D w) := by
  have LO : ∀ k, (Own3 db mb tb k ∨ k = bo ∨ k = sb) → k < w.heap.size := by
    obtain ⟨_, _, _, _, _, _, _, _, _, _, hb, _⟩ := h.sl
    rintro k (h1 | rfl | rfl)
    · exact h.disk.lt3 k h1
    · exact hb.lt
    · exact hk.lt
  have HLO := Lib.hid LO
  have NB := Lib.hid hnb
  have NBO := Lib.hid hbo
  have HDN := Lib.hid hdn
  have HXM := Lib.hid hxm
  have HXD := Lib.hid hxd
  have HTA := Lib.hid hta
  have HTM := Lib.hid htm
  have HTN := Lib.hid htn
  have HN0 := Lib.hid hn0
  have HST := Lib.hid hst
  have AX : Below w.heap.size w (w.alloc (.cells #[.int .i64 k, .int .i64 n, .int .u64 x.i, .int .u64 x.t, .slice ya yn yc, .slice za zn zc, .slice ta tn tc] 76)) := (Below.refl _ _).alloc (Nat.le_refl _) _
  have HPX := h.below AX
  have HKX := hk.below AX
  have HTX := hT.below AX
  have HIX := hx.below AX
  have HOY : SC27 (w.alloc (.cells #[.int .i64 k, .int .i64 n, .int .u64 x.i, .int .u64 x.t, .slice ya yn yc, .slice za zn zc, .slice ta tn tc] 76)) w.heap.size 0 (⟨k, n, x.i, x.t, ya, yn, yc, za, zn, zc, .slice ta tn tc, ts⟩ : SOp) := SC27.box w (⟨k, n, x.i, x.t, ya, yn, yc, za, zn, zc, .slice ta tn tc, ts⟩ : SOp)
  clear h hk hnb hbo hdn hT htm htn hta hn0 hst LO hx hxm hxd
  go_enter Tryz.func28, Tryz.ntmps28
  have k1 : (k == 1) = false := beq_eq_false_iff_ne.2 hk1.1
  have k2 : (k == 2) = false := beq_eq_false_iff_ne.2 hk1.2.1
  have k3 : (k == 3) = false := beq_eq_false_iff_ne.2 hk1.2.2
  have HOZ := Lib.hid HOY
  obtain ⟨x0, x1, x2, x3, x4, x5, x6⟩ := HOY
  rw [Nat.zero_add] at x1 x2 x3 x4 x5 x6
  go_wp2_with fail
  clear x0 x1 x2 x3 x4 x5 x6
  generalize World.alloc w _ = w0 at *
  have HP0 := Lib.hid HPX
  have HK0 := Lib.hid HKX
  have HT00 := Lib.hid HTX
  have HX0 := Lib.hid HIX
  have HO0 := HOZ
  have K0 : Hid (Kept w w0 (fun k => Own3 db mb tb k ∨ k = bo ∨ k = sb)) := Lib.hid (Kept.of_below AX (fun k h1 h2 => by omega))
  have Z0 : Hid (w.heap.size < w0.heap.size) := Lib.hid (World.block_lt_of_cell? _ _ HOZ.out.c0)
  clear AX HPX HKX HTX HIX
  obtain ⟨hd, hg, ⟨a0, m0, c0, am, nm, cm, ad, nd, cd, hn, hb, hs, hi, hap, ham, had⟩, hno, hfile⟩ := HP0.out
  have HD0 := Lib.hid hd
  have G0 := Lib.hid hg
  have HNP := Lib.hid hn
  have HB0 := Lib.hid hb
  have HS0 := Lib.hid hs
  have HI0 := Lib.hid hi
  have HFI := Lib.hid hfile
  have HFQ : Hid (∀ b, FarP bo db mb tb (some ⟨sb, 0, none⟩) b ↔ ¬ (Own3 db mb tb b ∨ b = bo ∨ b = sb)) := Lib.hid (fun b => ⟨fun ⟨h1, h2, h3⟩ e => by
      rcases e with e | e | e
      · exact h1 e
      · exact h2 e
      · exact h3 _ rfl e.symm, fun h => ⟨fun e => h (.inl e), fun e => h (.inr (.inl e)), fun q hq e => h (.inr (.inr (by obtain rfl := Option.some.inj hq; exact e.symm)))⟩⟩)
  have AP0 : Hid (∀ b, (Value.slice a0 m0 c0).ownBlock = some b → ¬ (Own3 db mb tb b ∨ b = bo ∨ b = sb)) := Lib.hid (fun b h => (HFQ.out b).1 (hap b h))
  have AM0 : Hid (S.ms ≠ [] → ∀ b, (Value.slice am nm cm).ownBlock = some b → ¬ (Own3 db mb tb b ∨ b = bo ∨ b = sb)) := Lib.hid (fun e b h => (HFQ.out b).1 (ham e b h))
  have AD0 : Hid (S.d ≠ [] → ∀ b, (Value.slice ad nd cd).ownBlock = some b → ¬ (Own3 db mb tb b ∨ b = bo ∨ b = sb)) := Lib.hid (fun e b h => (HFQ.out b).1 (had e b h))
  have NO := Lib.hid hno
  clear hd hg hn hb hs hi hap ham had hno hfile
  have ST := Stable.from w0
  refine region_start [0, 1, 3, 7, 0, 16, 63, 127] 0 (fun w' => Below w0.heap.size w0 w') (by kernel_rfl) ?_
  refine stage_heads [0, 1, 2, 3, 4, 5] (by kernel_rfl) (L := #[true, true, true, true, true, true, false, false]) (by kernel_rfl) (f' := 2) rfl (fun _ _ _ _ h => h) (fun w o h => ST.alloc h o) (.inr (by first | exact (Below.refl _ _).drew | exact Below.refl _ _)) ?_
  simp only [List.flatMap_cons, List.flatMap_nil, List.drop_succ_cons, List.drop_zero, List.take_succ_cons, List.take_zero, List.cons_append, List.nil_append, List.append_nil]
  iterate 6 (first | (refine heads_load _ (by rfl) (fun w' hs => by obtain ⟨q0, q1, _⟩ := HB0.out.below hs; obtain ⟨x0, x1, x2, x3, x4, x5, x6⟩ := HO0.out.below hs; rw [Nat.zero_add] at x1 x2 x3 x4 x5 x6; go_simp; try with_reducible rfl) rfl ?_; simp only [Act.put, List.setIfInBounds_toArray, List.set_cons_zero, List.set_cons_succ]) | (refine heads_pure _ (by rfl) (fun w' => by go_simp; try with_reducible rfl) ?_; simp only [Act.put, List.setIfInBounds_toArray, List.set_cons_zero, List.set_cons_succ]))
  refine heads_nil ?_
  refine stage_op 6 (by kernel_rfl) (L := #[true, true, true, true, true, true, true, false]) (by kernel_rfl) ?_
  simp only [List.drop_succ_cons, List.drop_zero, List.take_succ_cons, List.take_zero]
  go_wp2_with fail; refine (ssave_anyL sb db mb tb S x D _ _ (HK0.out.below ((Below.refl _ _).drew)) (HX0.out.below ((Below.refl _ _).drew)) (fun w' hk => (HX0.out.below ((Below.refl _ _).drew)).keptIf hk (fun e b hb h => HXM.out e b hb (.inl h)) (fun e b hb h => HXD.out e b hb (.inl h))) (HD0.out.below ((Below.refl _ _).drew)) G0.out (by have := HST.out; omega)).mono ?_; rintro e w1 ⟨rfl, hd1, hbk1, hk1⟩; have HD1 := Lib.hid hd1; have HK1 := Lib.hid hbk1; have K01 : Hid (Kept w0 w1 (fun k => Own3 db mb tb k ∨ k = sb)) := Lib.hid ((Kept.drew _ _).trans hk1); clear hd1 hbk1 hk1; go_wp2_with fail
  refine step_post nofun ?_
  refine stage_heads [7] (by kernel_rfl) (L := #[true, true, true, true, true, true, true, true]) (by kernel_rfl) (f' := 0) rfl (fun _ _ _ _ h => h) (fun w o h => ST.alloc h o) (.inl (by kernel_rfl)) ?_
  simp only [List.flatMap_cons, List.flatMap_nil, List.drop_succ_cons, List.drop_zero, List.take_succ_cons, List.take_zero, List.append_nil]
  iterate 1 (refine heads_pure _ (by rfl) (fun w' => by go_simp; try with_reducible rfl) ?_; simp only [Act.put, List.setIfInBounds_toArray, List.set_cons_zero, List.set_cons_succ])
  refine heads_nil ?_
  refine stage_done (by kernel_rfl) ?_
  clear ST
  have HB1 := Lib.hid (HB0.out.kept K01.out (fun h => h.elim NO.out (fun e => by have := NBO.out; omega)))
  have HS1 : Hid (SRow w1 3 (.slice a0 m0 c0) (D.files.map rfV)) := Lib.hid (HS0.out.kept K01.out (.inr fun b hb h => AP0.out b hb (h.imp id .inr)))
  have HI1 := Lib.hid (HI0.out.keptIf K01.out (fun e b hb h => AM0.out e b hb (h.imp id .inr)) (fun e b hb h => AD0.out e b hb (h.imp id .inr)))
  have HX1 := Lib.hid (HX0.out.keptIf K01.out (fun e b hb h => HXM.out e b hb (h.imp id .inr)) (fun e b hb h => HXD.out e b hb (h.imp id .inr)))
  have HO1 := Lib.hid (HO0.out.kept K01.out (fun h => by have := HLO.out _ (h.imp id .inr); omega))
  have HT1 := Lib.hid (HT00.out.keptIf27 K01.out (HTA.out.imp id fun h b hb e => h b hb (e.imp id .inr)))
  have K1 : Hid (Kept w w1 (fun k => Own3 db mb tb k ∨ k = bo ∨ k = sb)) := Lib.hid (K0.out.trans (K01.out.mono fun _ _ h => h.imp id .inr))
  have GA := saveD_good S x G0.out (by have := HST.out; omega)
  have SL := (save_law HDN.out HFI.out x).1
  obtain ⟨R, hR⟩ : ∃ R, saveD D S x = R := ⟨_, rfl⟩
  have HRR := Lib.hid hR
  rw [hR] at HD1 HK1 GA SL ⊢
  obtain ⟨D3, e3⟩ := R
  simp only at HD1 HK1 GA SL ⊢
  obtain ⟨S3, om, onn, oc, od, oe, of_, hS3, hOV, hi3, ham3, had3⟩ : ∃ (S3 : SnapS) (om : Option Addr) (onn oc : Nat) (od : Option Addr) (oe of_ : Nat), (if e3 = 0 then x else S) = S3 ∧ (if e3 = 0 then (.agg #[.int .u64 x.i, .int .u64 x.t, .slice ya yn yc, .slice za zn zc] : Value) else .agg #[.int .u64 S.i, .int .u64 S.t, .slice am nm cm, .slice ad nd cd]) = .agg #[.int .u64 S3.i, .int .u64 S3.t, .slice om onn oc, .slice od oe of_] ∧ SnapIs w1 (.agg #[.int .u64 S3.i, .int .u64 S3.t, .slice om onn oc, .slice od oe of_]) S3 ∧ (S3.ms ≠ [] → ∀ b, (Value.slice om onn oc).ownBlock = some b → ¬ (Own3 db mb tb b ∨ b = bo ∨ b = sb)) ∧ (S3.d ≠ [] → ∀ b, (Value.slice od oe of_).ownBlock = some b → ¬ (Own3 db mb tb b ∨ b = bo ∨ b = sb)) := by
    by_cases h0 : e3 = 0
    · exact ⟨x, ya, yn, yc, za, zn, zc, if_pos h0, if_pos h0, HX1.out, HXM.out, HXD.out⟩
    · exact ⟨S, am, nm, cm, ad, nd, cd, if_neg h0, if_neg h0, HI1.out, AM0.out, AD0.out⟩
  rw [hS3] at HK1 SL
  have HOV := Lib.hid hOV
  have HIV := Lib.hid hi3
  have AM3 := Lib.hid ham3
  have AD3 := Lib.hid had3
  have HF3 := Lib.hid SL
  clear HB0 HS0 HK0 HO0 HT00 K0 K01 HD0 HP0 HI0 HX0 hR hOV hi3 ham3 had3 SL hS3
  have G3 := Lib.hid GA.1
  have ZS3 := Lib.hid GA.2
  clear GA
  have ST := Stable.from w1
  go_wp2_with fail
  refine region_start [0, 0, 0, 4, 12, 28, 0, 64, 192, 448, 0, 1024, 4092, 8188, 16380, 16380, 16380, 32765, 163837, 425981, 983039, 2031615, 4128767, 8388607] 0 (fun w' => Below w1.heap.size w1 w') (by kernel_rfl) ?_
  refine stage_heads [0, 1, 2, 3, 4, 5, 6, 7, 8, 9, 10, 11] (by kernel_rfl) (L := #[true, true, true, true, true, true, true, true, true, true, true, true, false, false, false, false, false, false, false, false, false, false, false, false]) (by kernel_rfl) (f' := 12) rfl (fun _ _ _ _ h => h) (fun w o h => ST.alloc h o) (.inr (by first | exact (Below.refl _ _).drew | exact Below.refl _ _)) ?_
  simp only [List.flatMap_cons, List.flatMap_nil, List.drop_succ_cons, List.drop_zero, List.take_succ_cons, List.take_zero, List.cons_append, List.nil_append, List.append_nil]
  iterate 12 (first | (refine heads_load _ (by rfl) (fun w' hs => by obtain ⟨q0, q1, q2, q3, q4, q5, q6, q7, q8, q9, qx, _⟩ := HB1.out.below hs; obtain ⟨x0, x1, x2, x3, x4, x5, x6⟩ := HO1.out.below hs; rw [Nat.zero_add] at x1 x2 x3 x4 x5 x6; go_simp; try with_reducible rfl) rfl ?_; simp only [Act.put, List.setIfInBounds_toArray, List.set_cons_zero, List.set_cons_succ]) | (refine heads_pure _ (by rfl) (fun w' => by go_simp; try with_reducible rfl) ?_; simp only [Act.put, List.setIfInBounds_toArray, List.set_cons_zero, List.set_cons_succ]))
  refine heads_nil ?_
  refine stage_op 12 (by kernel_rfl) (L := #[true, true, true, true, true, true, true, true, true, true, true, true, true, false, false, false, false, false, false, false, false, false, false, false]) (by kernel_rfl) ?_
  simp only [List.drop_succ_cons, List.drop_zero, List.take_succ_cons, List.take_zero]
  go_wp2_with fail; refine (rsave_any _ D S x am ad ya za nm cm nd cd yn yc zn zc _ (RIs.new HNP.out (HS1.out.below ((Below.refl _ _).drew))) G0.out (by have := HST.out; omega) (HX1.out.below ((Below.refl _ _).drew)) (.agg #[.int .u64 S3.i, .int .u64 S3.t, .slice om onn oc, .slice od oe of_]) (by rw [HRR.out]; exact HOV.out)).mono ?_; rw [HRR.out]; rintro e w2 ⟨v2, rfl, hr2, hb2, hf2⟩; have I2 : Hid (Below w1.heap.size w1 w2) := Lib.hid (((Below.refl _ _).drew).trans hb2); simp only at hr2 ⊢; obtain ⟨a3, c3, rfl, hs2⟩ := hr2; obtain ⟨m3, hm3⟩ : ∃ k, D3.files.length = k := ⟨_, rfl⟩; have HN3 := Lib.hid hm3; rw [hm3] at hs2 hf2 ⊢; have HS2 := Lib.hid hs2; have AP3 : Hid (∀ b, (Value.slice a3 m3 c3).ownBlock = some b → ¬ (Own3 db mb tb b ∨ b = bo ∨ b = sb)) := Lib.hid (fun b hb e => (hf2 b hb).elim (fun h => AP0.out b h e) (fun h => by have h1 := HLO.out b e; have h2 := K1.out.size; have h3 : w1.heap.size ≤ b := h; omega)); clear hs2 hf2 hm3 hb2; go_wp2_with fail
  refine step_post nofun ?_
  refine stage_heads [13, 14, 15, 16, 17, 18] (by kernel_rfl) (L := #[true, true, true, true, true, true, true, true, true, true, true, true, true, true, true, true, true, true, true, false, false, false, false, false]) (by kernel_rfl) (f' := 5) rfl (fun _ _ _ _ h => h) (fun w o h => ST.alloc h o) (.inl (by kernel_rfl)) ?_
  simp only [List.flatMap_cons, List.flatMap_nil, List.drop_succ_cons, List.drop_zero, List.take_succ_cons, List.take_zero, List.cons_append, List.nil_append, List.append_nil]
  iterate 6 (refine heads_pure _ (by rfl) (fun w' => by go_simp; try with_reducible rfl) ?_; simp only [Act.put, List.setIfInBounds_toArray, List.set_cons_zero, List.set_cons_succ])
  refine heads_nil ?_
  refine stage_op 19 (by kernel_rfl) (L := #[true, true, true, true, true, true, true, true, true, true, true, true, true, true, true, true, true, true, true, true, false, false, false, false]) (by kernel_rfl) ?_
  simp only [List.drop_succ_cons, List.drop_zero, List.take_succ_cons, List.take_zero]
  have HB2 := Lib.hid (HB1.out.below I2.out); obtain ⟨q0, q1, q2, q3, q4, q5, q6, q7, q8, q9, qx, fz⟩ := HB2.out; have g2 := fz 2 (by omega) (by omega); have g3 := fz 3 (by omega) (by omega); have g4 := fz 4 (by omega) (by omega); have g5 := fz 5 (by omega) (by omega); have g6 := fz 6 (by omega) (by omega); have g7 := fz 7 (by omega) (by omega); have g8 := fz 8 (by omega) (by omega); have g9 := fz 9 (by omega) (by omega); have gx := fz 10 (by omega) (by omega); go_wp2_with fail
  refine step_post nofun ?_
  refine stage_heads [20, 21] (by kernel_rfl) (L := #[true, true, true, true, true, true, true, true, true, true, true, true, true, true, true, true, true, true, true, true, true, true, false, false]) (by kernel_rfl) (f' := 2) rfl (fun _ _ _ _ h => h) (fun w o h => ST.alloc h o) (.inl (by kernel_rfl)) ?_
  simp only [List.flatMap_cons, List.flatMap_nil, List.drop_succ_cons, List.drop_zero, List.take_succ_cons, List.take_zero, List.cons_append, List.nil_append, List.append_nil]
  iterate 2 (refine heads_pure _ (by rfl) (fun w' => by go_simp; try with_reducible rfl) ?_; simp only [Act.put, List.setIfInBounds_toArray, List.set_cons_zero, List.set_cons_succ])
  refine heads_nil ?_
  refine stage_op 22 (by kernel_rfl) (L := #[true, true, true, true, true, true, true, true, true, true, true, true, true, true, true, true, true, true, true, true, true, true, true, false]) (by kernel_rfl) ?_
  simp only [List.drop_succ_cons, List.drop_zero, List.take_succ_cons, List.take_zero]
  go_wp2_with fail
  refine step_post nofun ?_
  refine stage_heads [23] (by kernel_rfl) (L := #[true, true, true, true, true, true, true, true, true, true, true, true, true, true, true, true, true, true, true, true, true, true, true, true]) (by kernel_rfl) (f' := 0) rfl (fun _ _ _ _ h => h) (fun w o h => ST.alloc h o) (.inl (by kernel_rfl)) ?_
  simp only [List.flatMap_cons, List.flatMap_nil, List.drop_succ_cons, List.drop_zero, List.take_succ_cons, List.take_zero, List.append_nil]
  iterate 1 (refine heads_pure _ (by rfl) (fun w' => by go_simp; try with_reducible rfl) ?_; simp only [Act.put, List.setIfInBounds_toArray, List.set_cons_zero, List.set_cons_succ])
  refine heads_nil ?_
  refine stage_done (by kernel_rfl) ?_
  clear q0 q1 q2 q3 q4 q5 q6 q7 q8 q9 qx g2 g3 g4 g5 g6 g7 g8 g9 gx fz
  have HB3a := (HB2.out.setD D3 (.slice a3 m3 c3)).setS S3.i S3.t (.slice om onn oc) (.slice od oe of_)
  have HD3a := ((HD1.out.below I2.out).setPair HB2.out.bo NO.out D3 (.slice a3 m3 c3)).setVS (HB2.out.setD D3 (.slice a3 m3 c3)) NO.out S3.i S3.t (.slice om onn oc) (.slice od oe of_)
  have KB := (Kept.setBO w2 bo D3 (.slice a3 m3 c3)).trans (Kept.setV _ bo S3.i S3.t (.slice om onn oc) (.slice od oe of_))
  have HS3a := HS2.out.kept KB (.inr fun b hb h => AP3.out b hb (.inr (.inl h)))
  have HK3a := (HK1.out.below I2.out).keptOff KB (fun k h => .inr (by rw [show k = bo from h]; exact NBO.out))
  have HI3a := (HIV.out.below I2.out).keptIf KB (fun e b hb h => AM3.out e b hb (.inr (.inl h))) (fun e b hb h => AD3.out e b hb (.inr (.inl h)))
  have HO3a := (HO1.out.below I2.out).kept KB (fun h => by have := HLO.out bo (.inr (.inl rfl)); omega)
  have HT3a := (HT1.out.below I2.out).keptIf27 KB (HTA.out.imp id fun h b hb e => h b hb (.inr (.inl e)))
  have K3a := (K1.out.trans (Kept.of_below I2.out (fun k h1 h2 => by omega))).trans (KB.mono fun k _ h => .inr (.inl h))
  unfold setV setBO at HB3a HD3a HS3a HK3a HI3a HO3a HT3a K3a
  generalize World.setCell _ _ _ = w3 at *
  have HB3 := Lib.hid HB3a
  have HD3 := Lib.hid HD3a
  have HS3 := Lib.hid HS3a
  have HK3 := Lib.hid HK3a
  have HI3 := Lib.hid HI3a
  have HO3 := Lib.hid HO3a
  have HT3 := Lib.hid HT3a
  have K3 : Hid (Kept w w3 (fun k => Own3 db mb tb k ∨ k = bo ∨ k = sb)) := Lib.hid K3a
  clear KB HB3a HD3a HS3a HK3a HI3a HO3a HT3a K3a HB1 HD1 HS1 HK1 HO1 HT1 K1 HS2 HB2 HI1 HX1 ST
  clear HIV HOV
  obtain ⟨dn, hdd⟩ : ∃ x, D3.down = x := ⟨_, rfl⟩
  have HDD := Lib.hid hdd
  clear hdd
  have e1 : ((e3 : Int) != (e3 : Int)) = false := bne_self_eq_false _
  have e2 : (dn != dn) = false := bne_self_eq_false _
  have ST := Stable.from w3
  go_wp2_with fail
  refine region_start [0, 0, 3, 7, 15, 31, 63, 127, 255, 15, 527, 1551, 3599, 7695, 16383, 32767] 256 (fun w' => Below w3.heap.size w3 w') (by kernel_rfl) ?_
  refine stage_heads [0, 1, 2, 3, 4, 5, 6, 7, 9, 10, 11, 12, 13] (by kernel_rfl) (L := #[true, true, true, true, true, true, true, true, false, true, true, true, true, true, false, false]) (by kernel_rfl) (f' := 3) rfl (fun _ _ _ _ h => h) (fun w o h => ST.alloc h o) (.inr (by first | exact (Below.refl _ _).drew | exact Below.refl _ _)) ?_
  simp only [List.flatMap_cons, List.flatMap_nil, List.drop_succ_cons, List.drop_zero, List.take_succ_cons, List.take_zero, List.cons_append, List.nil_append, List.append_nil]
  iterate 13 (first | (refine heads_load _ (by rfl) (fun w' hs => by obtain ⟨q0, q1, q2, q3, q4, q5, q6, q7, q8, q9, qx, _⟩ := HB3.out.below hs; rw [HDD.out] at q4; go_simp; try with_reducible rfl) rfl ?_; simp only [Act.put, List.setIfInBounds_toArray, List.set_cons_zero, List.set_cons_succ]) | (refine heads_pure _ (by rfl) (fun w' => by go_simp; try with_reducible rfl) ?_; simp only [Act.put, List.setIfInBounds_toArray, List.set_cons_zero, List.set_cons_succ]) | (refine heads_skip (by rfl) ?_; simp only [Act.put, List.setIfInBounds_toArray, List.set_cons_zero, List.set_cons_succ]))
  refine heads_nil ?_
  refine stage_op 8 (by kernel_rfl) (L := #[true, true, true, true, true, true, true, true, true, true, true, true, true, true, false, false]) (by kernel_rfl) ?_
  simp only [List.drop_succ_cons, List.drop_zero, List.take_succ_cons, List.take_zero]
  go_wp2_with fail; refine (ddown_any db mb tb D3 _ (by first | exact HD3.out.below ((Below.refl _ _).drew) | exact HD3.out)).mono ?_; rintro e w4 ⟨rfl, rfl⟩; rw [HDD.out]; go_wp2_with fail
  refine step_post (fun _ => (Below.refl _ _).drew) ?_
  refine stage_heads [14, 15] (by kernel_rfl) (L := #[true, true, true, true, true, true, true, true, true, true, true, true, true, true, true, true]) (by kernel_rfl) (f' := 0) rfl (fun _ _ _ _ h => h) (fun w o h => ST.alloc h o) (.inl (by kernel_rfl)) ?_
  simp only [List.flatMap_cons, List.flatMap_nil, List.drop_succ_cons, List.drop_zero, List.take_succ_cons, List.take_zero, List.cons_append, List.nil_append, List.append_nil]
  iterate 2 (first | (refine heads_pure _ (by rfl) (fun w' => by go_simp; try with_reducible rfl) ?_; simp only [Act.put, List.setIfInBounds_toArray, List.set_cons_zero, List.set_cons_succ]) | (refine heads_skip (by rfl) ?_; simp only [Act.put, List.setIfInBounds_toArray, List.set_cons_zero, List.set_cons_succ]))
  refine heads_nil ?_
  refine stage_done (by kernel_rfl) ?_
  have BD : Below w3.heap.size w3 w3.drew := (Below.refl _ _).drew
  have HD5 := Lib.hid (HD3.out.below BD)
  have HB5 := Lib.hid (HB3.out.below BD)
  have HS5 := Lib.hid (HS3.out.below BD)
  have HI5 := Lib.hid (HI3.out.below BD)
  have HK5 := Lib.hid (HK3.out.below BD)
  have HO5 := Lib.hid (HO3.out.below BD)
  have HT5 := Lib.hid (HT3.out.below BD)
  have K5 : Hid (Kept w w3.drew (fun k => Own3 db mb tb k ∨ k = bo ∨ k = sb)) := Lib.hid (K3.out.trans (Kept.drew _ _))
  clear BD ST HD3 HB3 HS3 HK3 HO3 HT3 HI3 K3
  generalize w3.drew = w5 at *
  obtain ⟨q0, q1, q2, q3, q4, q5, q6, q7, q8, q9, qx, _⟩ := HB5.out
  rw [HDD.out] at q4
  cases dn
  · have HUP : Hid (D3.down = false) := HDD
    go_wp2_with fail
    go_ret
    exact ⟨rfl, sb, D3, S3, ⟨HD5.out, G3.out, ⟨a3, m3, c3, om, onn, oc, od, oe, of_, HN3.out, HB5.out, HS5.out, HI5.out, fun b hb => (HFQ.out b).2 (AP3.out b hb), fun e b hb => (HFQ.out b).2 (AM3.out e b hb), fun e b hb => (HFQ.out b).2 (AD3.out e b hb)⟩, NO.out, HF3.out⟩, HK5.out, NB.out, NBO.out, .inl rfl, HUP.out, by have := ZS3.out; omega, K5.out⟩
  · obtain ⟨x0, x1, x2, x3, x4, x5, x6⟩ := HO5.out
    rw [Nat.zero_add] at x1 x2 x3 x4 x5 x6
    go_wp2_with fail
    refine (sreopen_any bo db mb tb (some ⟨sb, 0, none⟩) D3 S3 _ ts w5 ⟨HD5.out, G3.out, ⟨a3, m3, c3, om, onn, oc, od, oe, of_, HN3.out, HB5.out, HS5.out, HI5.out, fun b hb => (HFQ.out b).2 (AP3.out b hb), fun e b hb => (HFQ.out b).2 (AM3.out e b hb), fun e b hb => (HFQ.out b).2 (AD3.out e b hb)⟩, NO.out, HF3.out⟩ HT5.out HTM.out (HTA.out.imp id (fun h b hb e => h b hb (.inl e))) (by have := ZS3.out; have := HST.out; omega)).mono ?_
    rintro e w6 ⟨rfl, bc, hp6, hk6, hbc, hco, hnc, hK6⟩
    have PP := Lib.hid (And.intro hp6 (And.intro hk6 (And.intro hnc hco)))
    have BC : Hid (w.heap.size ≤ bc) := Lib.hid (Nat.le_trans K5.out.size hbc)
    have K6 : Hid (Kept w w6 (fun k => Own3 db mb tb k ∨ k = bo ∨ k = sb)) := Lib.hid (K5.out.trans (hK6.mono fun k _ h => h.imp id .inl))
    have HCA : Hid ((reG D3 ts).down = false) := Lib.hid (calm_gone (calm_boot27 _))
    have HSR := Lib.hid (reG_good G3.out ts (by have := ZS3.out; have := HST.out; omega)).2
    clear hp6 hk6 hbc hnc hco hK6 x0 x1 x2 x3 x4 x5 x6
    go_wp2_with fail
    go_ret
    exact ⟨rfl, bc, reG D3 ts, S3, PP.out.1, PP.out.2.1, PP.out.2.2.1, PP.out.2.2.2, .inr BC.out, HCA.out, by have h1 := HSR.out; have h2 := ZS3.out; omega, K6.out⟩
theorem sdo_any (bo db mb tb sb : Nat) (D : DiskS) (S x : SnapS) (k n : Int) (ya za ta : Option Addr) (yn yc zn zc tn tc : Nat) (ts : List (Nat × Nat)) (w : World) (h : PairS w bo db mb tb (some ⟨sb, 0, none⟩) D S) (hk : StoreL w sb db mb tb S) (hnb : ¬ Own3 db mb tb sb) (hbo : bo < sb) (hdn : D.down = false) (hx : SnapIs w (.agg #[.int .u64 x.i, .int .u64 x.t, .slice ya yn yc, .slice za zn zc]) x) (hxm : x.ms ≠ [] → ∀ b, (Value.slice ya yn yc).ownBlock = some b → ¬ (Own3 db mb tb b ∨ b = bo ∨ b = sb)) (hxd : x.d ≠ [] → ∀ b, (Value.slice za zn zc).ownBlock = some b → ¬ (Own3 db mb tb b ∨ b = bo ∨ b = sb)) (hT : TearsIs w (.slice ta tn tc) ts) (htn : ts.length = tn) (htm : ts.length ≤ 1000) (hta : ts = [] ∨ ∀ b, (Value.slice ta tn tc).ownBlock = some b → ¬ (Own3 db mb tb b ∨ b = bo ∨ b = sb)) (hn0 : n ≤ 9223372036854775807) (hst : D.steps + 5 ≤ 1000000000) :
    Calls Tryz.prog 28 #[.pointer (some ⟨bo, 0, none⟩), .agg #[.int .i64 k, .int .i64 n, .int .u64 x.i, .int .u64 x.t, .slice ya yn yc, .slice za zn zc, .slice ta tn tc]] w (SDoPost bo db mb tb sb D w) := by
  by_cases h1 : k = 1
  · exact sdo_crash bo db mb tb sb D S x k n ya za ta yn yc zn zc tn tc ts w h hk hnb hbo hdn hx hxm hxd hT htn htm hta hn0 hst h1
  · by_cases h2 : k = 2
    · exact sdo_arm bo db mb tb sb D S x k n ya za ta yn yc zn zc tn tc ts w h hk hnb hbo hdn hx hxm hxd hT htn htm hta hn0 hst h2
    · by_cases h3 : k = 3
      · exact sdo_resize bo db mb tb sb D S x k n ya za ta yn yc zn zc tn tc ts w h hk hnb hbo hdn hx hxm hxd hT htn htm hta hn0 hst h3
      · exact sdo_save bo db mb tb sb D S x k n ya za ta yn yc zn zc tn tc ts w h hk hnb hbo hdn hx hxm hxd hT htn htm hta hn0 hst ⟨h1, h2, h3⟩
end Go.Proofs.YtofhccpagnkalaaGreat

/- The law SnapshotPlays, walked; no conditions. -/
namespace Go.Proofs.YtofhccpagnkalaaGreat
open Go.RowKit Go.Maps Go.Proofs.Own Go.Shelf

set_option maxHeartbeats 1600000 in
set_option maxRecDepth 20000 in
theorem splays_bad (room : Int) (v : Value) (rs : List SOp) (w : World) (h : SOpsIs w v rs) (hb : ¬ (0 ≤ room ∧ room ≤ 1048576 ∧ sFew rs = true)) : Calls Tryz.prog 6 #[.int .i64 room, v] w fun e w' => e = .returned (.bool true) ∧ Below w.heap.size w w' := by
  have HL := Lib.hid h
  obtain ⟨la, lc, rfl, _⟩ := h.1.shape
  clear h
  rw [List.length_map] at HL ⊢
  generalize hn : rs.length = n at HL ⊢
  by_cases h1 : 0 ≤ room
  · have c1 : ¬ room < 0 := by omega
    by_cases h2 : room ≤ 1048576
    · have c2 : ¬ 1048576 < room := by omega
      have HV : Hid (sFew rs = false) := Lib.hid (by simpa [h1, h2] using hb)
      clear hb h1 h2
      go_enter Tryz.func6, Tryz.ntmps6
      go_wp2_with fail
      refine (sfew_any _ rs w HL.out).mono ?_
      rintro e w1 ⟨rfl, hb1⟩
      rw [HV.out]
      have B1 := Lib.hid hb1
      clear hb1
      go_wp2_with fail
      refine (lives_any _).mono ?_
      rintro e wz ⟨rfl, hbz⟩
      have BZ := Lib.hid hbz
      clear hbz
      go_wp2_with fail
      go_ret
      exact ⟨rfl, B1.out.trans (BZ.out.mono B1.out.size)⟩
    · have c2 : 1048576 < room := by omega
      clear hb h1 h2
      go_enter Tryz.func6, Tryz.ntmps6
      go_wp2_with fail
      refine (lives_any _).mono ?_
      rintro e wz ⟨rfl, hbz⟩
      have BZ := Lib.hid hbz
      clear hbz
      go_wp2_with fail
      go_ret
      exact ⟨rfl, BZ.out⟩
  · have c1 : room < 0 := by omega
    clear hb h1
    go_enter Tryz.func6, Tryz.ntmps6
    go_wp2_with fail
    refine (lives_any _).mono ?_
    rintro e wz ⟨rfl, hbz⟩
    have BZ := Lib.hid hbz
    clear hbz
    go_wp2_with fail
    go_ret
    exact ⟨rfl, BZ.out⟩
def dRoom27 (room : Int) : DiskS := ⟨room, [], false, -1, 0⟩
theorem dRoom27_good {room : Int} (h0 : 0 ≤ room) (h1 : room ≤ 1048576) : DGood (dRoom27 room) := ⟨⟨h0, h1, by show (-1 : Int) ≤ -1; decide, by show (-1 : Int) ≤ _; decide, by show (0 : Int) ≤ 0; decide, by show (0 : Int) ≤ _; decide, by show 0 ≤ 1000; decide, fun f h => by cases h⟩, by show (0 : Nat) ≤ _; decide, by show 0 ≤ 128; decide⟩

set_option maxHeartbeats 4000000 in
set_option maxRecDepth 20000 in
theorem splays_good (room : Int) (rs : List SOp) (la : Option Addr) (lc : Nat) (w : World) (hl : SOpsIs w (.slice la rs.length lc) rs) (h0 : 0 ≤ room) (h1 : room ≤ 1048576) (h2 : sFew rs = true) : Calls Tryz.prog 6 #[.int .i64 room, .slice la rs.length lc] w fun e w' => e = .returned (.bool true) ∧ Below w.heap.size w w' := by
  have HL := Lib.hid hl
  have HLT := Lib.hid h2
  have HR := Lib.hid (And.intro h0 h1)
  obtain ⟨n, hn⟩ : ∃ n, rs.length = n := ⟨_, rfl⟩
  have HN := Lib.hid hn
  have H60 : Hid (n ≤ 60) := Lib.hid (by unfold sFew at h2; simp only [Bool.and_eq_true, decide_eq_true_eq] at h2; omega)
  have H40 : Hid (∀ r ∈ rs, (r.nm ≤ 30 ∧ r.nd ≤ 33000) ∧ r.ts.length ≤ 40) := Lib.hid (by unfold sFew at h2; simp only [Bool.and_eq_true, decide_eq_true_eq, List.all_eq_true] at h2; exact fun r hr => of_decide_eq_true (h2.1 r hr))
  rw [hn] at HL ⊢
  have b60 : (n : Int) ≤ 60 := by have := H60.out; omega
  have c1 : ¬ room < 0 := by omega
  have c2 : ¬ 1048576 < room := by omega
  clear hl h0 h1 h2 hn
  go_enter Tryz.func6, Tryz.ntmps6
  go_wp2_with fail
  refine (sfew_any _ rs w HL.out).mono ?_
  rintro e wl ⟨rfl, hbl⟩
  rw [HLT.out]
  have BL := Lib.hid hbl
  clear hbl
  go_wp2_with fail
  refine (dnew room wl HR.out.1 HR.out.2).mono ?_
  rintro e w1 ⟨db, mb, tb, rfl, hd1, hb1, h1, h2, h3⟩
  have D1 : Hid (DiskIs w1 db mb tb (dRoom27 room)) := Lib.hid hd1
  have B1 : Hid (Below w.heap.size w w1) := Lib.hid (BL.out.trans (hb1.mono BL.out.size))
  have HO : Hid (∀ k, Own3 db mb tb k → w.heap.size ≤ k) := Lib.hid (by have := BL.out.size; rintro k (rfl | rfl | rfl) <;> omega)
  clear hd1 hb1 h1 h2 h3 BL c1 c2
  go_wp2_with fail
  refine (rnew_at room w1).mono ?_
  rintro e w2 ⟨rfl, hb2⟩
  have B2 : Hid (Below w.heap.size w w2) := Lib.hid (B1.out.trans (hb2.mono B1.out.size))
  have D2 := Lib.hid (D1.out.below hb2)
  clear hb2
  go_wp2_with fail
  have hbx : BS (w2.alloc (.cells #[.pointer (some ⟨db, 0, none⟩), .pointer none, .int .i64 room, .slice none 0 0, .bool false, .int .i64 (-1), .int .u64 0, .int .u64 0, .int .u64 0, .slice none 0 0, .slice none 0 0] 74)) w2.heap.size db none (dRoom27 room) (.slice none 0 0) 0 0 (.slice none 0 0) (.slice none 0 0) := BS.box w2 db (dRoom27 room) (.slice none 0 0)
  have hal : Below w2.heap.size w2 (w2.alloc (.cells #[.pointer (some ⟨db, 0, none⟩), .pointer none, .int .i64 room, .slice none 0 0, .bool false, .int .i64 (-1), .int .u64 0, .int .u64 0, .int .u64 0, .slice none 0 0, .slice none 0 0] 74)) := (Below.refl _ _).alloc (Nat.le_refl _) _
  have BA := Lib.hid (B2.out.trans (hal.mono B2.out.size))
  have NO : Hid (¬ Own3 db mb tb w2.heap.size) := Lib.hid (fun h => by have := D2.out.lt3 _ h; omega)
  have HBO : Hid (w.heap.size ≤ w2.heap.size) := Lib.hid B2.out.size
  have PA := Lib.hid (show PairS _ w2.heap.size db mb tb none (dRoom27 room) zeroS from ⟨D2.out.below hal, dRoom27_good HR.out.1 HR.out.2, ⟨none, 0, 0, none, 0, 0, none, 0, 0, rfl, hbx, SRow.nil _ _, zero_is _, fun b h => (by cases h), fun _ b h => (by cases h), fun _ b h => (by cases h)⟩, NO.out, .inl ⟨rfl, rfl⟩⟩)
  clear hbx hal D1 B1 B2
  generalize World.alloc w2 _ = wA at *
  generalize w2.heap.size = bo at *
  refine (sreopen_any bo db mb tb none (dRoom27 room) zeroS _ [] wA PA.out ⟨SRow.nil _ _, fun t h => by cases h⟩ (by simp) (.inl rfl) (by show (0 : Int) + 1 ≤ _; decide)).mono ?_
  rintro e wB ⟨rfl, b0, hp, hk, hbb, hbo, hnb, hK⟩
  have PB := Lib.hid hp
  have KB := Lib.hid hk
  have NB0 := Lib.hid hnb
  have NO0 := Lib.hid hbo
  have HB0 : Hid (w.heap.size ≤ b0) := Lib.hid (Nat.le_trans BA.out.size hbb)
  have BB : Hid (Below w.heap.size w wB) := Lib.hid (BA.out.trans (hK.below BA.out.size (fun k h => by rcases h with h | h; exact HO.out k h; exact h ▸ HBO.out)))
  have ZB : Hid ((reG (dRoom27 room) []).steps ≤ 1) := Lib.hid (by have h := (reG_good (dRoom27_good HR.out.1 HR.out.2) [] (by show (0 : Int) + 1 ≤ _; decide)).2; have e : (dRoom27 room).steps = 0 := rfl; omega)
  have UB : Hid ((reG (dRoom27 room) []).down = false) := Lib.hid (calm_gone (calm_boot27 _))
  clear hp hk hbb hnb hbo hK PA BA D2
  go_wp2_with fail
  go_loopw [33] (fun i wr => ∃ (j : Nat) (D : DiskS) (S : SnapS) (sb : Nat), i = .int .i64 j ∧ j ≤ n ∧ D.steps ≤ 5 * (j : Int) + 1 ∧ D.down = false ∧ PairS wr bo db mb tb (some ⟨sb, 0, none⟩) D S ∧ StoreL wr sb db mb tb S ∧ ¬ Own3 db mb tb sb ∧ bo < sb ∧ w.heap.size ≤ sb ∧ Below w.heap.size w wr) (fun i _ => n - (intOf i).toNat)
  case atStart => exact ⟨0, _, _, b0, rfl, by omega, ZB.out, UB.out, PB.out, KB.out, NB0.out, NO0.out, HB0.out, BB.out⟩
  case round =>
    obtain ⟨j, D, S, sb, rfl, hj, hsz, hdn, hp, hk, hnb, hbo, hbb, hbl⟩ := hrel
    have SZ := Lib.hid hsz
    have HDN := Lib.hid hdn
    have HP := Lib.hid hp
    have HK := Lib.hid hk
    have NBB := Lib.hid hnb
    have NBO := Lib.hid hbo
    have HBB := Lib.hid hbb
    have BR := Lib.hid hbl
    clear hsz hdn hp hk hnb hbo hbb hbl
    clear PB KB NB0 NO0 HB0 BB ZB UB
    by_cases hlt : j < n
    · obtain ⟨r, hr, hrm⟩ := getAt (l := rs) (j := j) (by rw [HN.out]; exact hlt)
      obtain ⟨b, o, rfl, hbw, hc⟩ := (HL.out.below BR.out).at hr
      have HOK := Lib.hid (HL.out.2.1 r hrm).1
      have hts := (HL.out.2.1 r hrm).2.2
      have hli := H40.out r hrm
      obtain ⟨l1, hl1, hi1⟩ := (HL.out.2.1 r hrm).2.1.1 (by omega)
      obtain ⟨l2, hl2, hd2⟩ := (HL.out.2.1 r hrm).2.1.2 (by omega)
      have HR40 := Lib.hid hli.2
      have HSX : Hid (SnapIs w (.agg #[.int .u64 r.i, .int .u64 r.t, .slice r.am r.nm r.cm, .slice r.ad r.nd r.cd]) ⟨r.i, r.t, l1, l2⟩) := Lib.hid ⟨_, _, rfl, hi1, hd2⟩
      have FARW : Hid (∀ sb, w.heap.size ≤ sb → ∀ k, (Own3 db mb tb k ∨ k = bo ∨ k = sb) → w.heap.size ≤ k) := Lib.hid (fun sb hs k h => by rcases h with h | h | h; exact HO.out k h; exact h ▸ HBO.out; exact h ▸ hs)
      have XMF : Hid (l1 ≠ [] → ∀ b, (Value.slice r.am r.nm r.cm).ownBlock = some b → b < w.heap.size) := Lib.hid (fun hne b hb => by
        obtain ⟨_, _, hcl⟩ := hi1.cells
        obtain ⟨b', o', e1, e2⟩ := hcl 0 (List.length_pos_iff.2 hne)
        rw [e1] at hb
        obtain rfl : b' = b := Option.some.inj hb
        exact World.block_lt_of_cell? _ _ e2)
      have XDF : Hid (l2 ≠ [] → ∀ b, (Value.slice r.ad r.nd r.cd).ownBlock = some b → b < w.heap.size) := Lib.hid (fun hne b hb => by
        obtain ⟨a', c', e0, hcl⟩ := hd2.rd
        obtain ⟨b', o', e1, e2⟩ := hcl 0 (by rw [length_ints]; exact List.length_pos_iff.2 hne)
        simp only [Value.slice.injEq] at e0
        rw [e0.1, e1] at hb
        obtain rfl : b' = b := Option.some.inj hb
        exact World.block_lt_of_cell? _ _ e2)
      obtain ⟨rta, rtc, htv, _⟩ := hts.1.shape
      rw [List.length_map] at htv
      obtain ⟨rtn, hrn⟩ : ∃ k, r.ts.length = k := ⟨_, rfl⟩
      have HRN := Lib.hid hrn
      rw [hrn] at htv
      rw [htv] at hts
      have HTS := Lib.hid hts
      obtain ⟨x0, x1, x2, x3, x4, x5, x6⟩ := hc
      rw [htv] at x6
      have hj1 : (j : Int) < (n : Int) := by omega
      clear hr hrm hts htv hrn hli hi1 hd2 hl1 hl2
      have AX : Below wr.heap.size wr (wr.alloc (.cells #[.int .i64 r.k, .int .i64 r.n, .int .u64 r.i, .int .u64 r.t, .slice r.am r.nm r.cm, .slice r.ad r.nd r.cd, .slice rta rtn rtc] 76)) := (Below.refl _ _).alloc (Nat.le_refl _) _
      go_wp2_with fail
      clear x0 x1 x2 x3 x4 x5 x6 hbw
      generalize World.alloc wr _ = wx at *
      have HPX := Lib.hid (HP.out.below AX)
      have HKX := Lib.hid (HK.out.below AX)
      have BX : Hid (Below w.heap.size w wx) := Lib.hid (BR.out.trans (AX.mono BR.out.size))
      have HTX := Lib.hid (HTS.out.below BX.out)
      have HXX := Lib.hid (HSX.out.below BX.out)
      have HTA := Lib.hid (HTS.out.apart (R := fun b => Own3 db mb tb b ∨ b = bo ∨ b = sb) (FARW.out sb HBB.out))
      clear AX HP HK BR
      refine (sdo_any bo db mb tb sb D S ⟨r.i, r.t, l1, l2⟩ r.k r.n r.am r.ad rta r.nm r.cm r.nd r.cd rtn rtc r.ts wx HPX.out HKX.out NBB.out NBO.out HDN.out HXX.out (fun e b hb h => by have := XMF.out e b hb; have := FARW.out sb HBB.out b h; omega) (fun e b hb h => by have := XDF.out e b hb; have := FARW.out sb HBB.out b h; omega) HTX.out HRN.out (by have := HR40.out; have := HRN.out; omega) HTA.out HOK.out (by have := SZ.out; have := H60.out; omega)).mono ?_
      rintro e wD ⟨rfl, bc, D', S', hp, hk, hnc, hco, hbc, hdn, hst, hK⟩
      have HPD := Lib.hid hp
      have HKD := Lib.hid hk
      have NBC := Lib.hid hnc
      have NCO := Lib.hid hco
      have HBC : Hid (w.heap.size ≤ bc) := Lib.hid (by rcases hbc with e | e; exact e ▸ HBB.out; exact Nat.le_trans BX.out.size e)
      have HDD := Lib.hid hdn
      have SD : Hid (D'.steps ≤ 5 * ((j + 1 : Nat) : Int) + 1) := Lib.hid (by have := SZ.out; omega)
      have BD : Hid (Below w.heap.size w wD) := Lib.hid (BX.out.trans (hK.below BX.out.size (FARW.out sb HBB.out)))
      clear hp hk hnc hco hbc hdn hst hK
      obtain ⟨hd, hg, ⟨a, m, c, am, nm, cm, ad, nd, cd, hn, hb, hs, hi, _, _, _⟩, _, hfile⟩ := HPD.out
      have HD := Lib.hid hd
      have GD := Lib.hid hg
      have HNN := Lib.hid hn
      have HB := Lib.hid hb
      have HS := Lib.hid hs
      have HI := Lib.hid hi
      have HSO : Hid (OptStore wD (some ⟨bc, 0, none⟩) db mb tb S') := Lib.hid (.inr ⟨bc, rfl, HKD.out.is, by rcases hfile with h | h; exact .inl h.1; exact .inr h.1.1⟩)
      clear hd hg hn hb hs hi hfile
      obtain ⟨q0, q1, q2, q3, q4, q5, q6, q7, q8, q9, qx, _⟩ := HB.out
      go_wp2_with fail
      refine (sget_all _ db mb tb S' wD HSO.out).mono ?_
      rintro e wG ⟨i2, t2, mv2, dv2, rfl, hi2, hb2⟩
      obtain ⟨mv', dv', hee, hmG, hdG⟩ := hi2
      simp only [Value.agg.injEq, Array.mk.injEq, List.cons.injEq, and_true, Value.int.injEq, true_and] at hee
      obtain ⟨rfl, rfl, rfl, rfl⟩ := hee
      obtain ⟨am2, cm2, rfl, _⟩ := hmG.shape
      obtain ⟨ad2, cd2, rfl, _⟩ := hdG.shape
      have HIG : Hid (SnapIs wG (.agg #[.int .u64 S'.i, .int .u64 S'.t, .slice am2 S'.ms.length cm2, .slice ad2 S'.d.length cd2]) S') := Lib.hid ⟨_, _, rfl, hmG, hdG⟩
      have BQG := Lib.hid hb2
      clear hmG hdG hb2 q0 q1 q2 q3 q4 q5 q6 q7 q8 q9 qx
      obtain ⟨nm2, hnm⟩ : ∃ k, S'.ms.length = k := ⟨_, rfl⟩
      obtain ⟨nd2, hnd⟩ : ∃ k, S'.d.length = k := ⟨_, rfl⟩
      rw [hnm, hnd] at HIG ⊢
      clear hnm hnd
      obtain ⟨okb, hokb⟩ : ∃ x, decide (0 < S'.i) = x := ⟨_, rfl⟩
      have HOKB := Lib.hid hokb
      rw [hokb]
      clear hokb
      go_wp2_with fail
      have hsb := SBlk.box wG S'.i S'.t (.slice am2 nm2 cm2) (.slice ad2 nd2 cd2)
      have hbg : Below wG.heap.size wG (wG.alloc (.cells #[.int .u64 S'.i, .int .u64 S'.t, .slice am2 nm2 cm2, .slice ad2 nd2 cd2] 40)) := (Below.refl _ _).alloc (Nat.le_refl _) _
      have hqg := BQG.out.trans (hbg.mono BQG.out.size)
      generalize World.alloc wG _ = wH at *
      have SBH := Lib.hid hsb
      have IS1 := Lib.hid (HIG.out.below hbg)
      have IS2 := Lib.hid (HI.out.below hqg)
      have HBH := Lib.hid (HB.out.below hqg)
      have HDH := Lib.hid (HD.out.below hqg)
      have HSH := Lib.hid (HS.out.below hqg)
      have HPH := Lib.hid (HPD.out.below hqg)
      have HKH := Lib.hid (HKD.out.below hqg)
      have BH := Lib.hid (BD.out.trans (hqg.mono BD.out.size))
      have ST := Stable.from wH
      clear hsb hbg hqg HIG HI HB HD HS HPD HKD BD BQG HSO
      obtain ⟨si, hsi⟩ : ∃ x, S'.i = x := ⟨_, rfl⟩
      obtain ⟨st, hstt⟩ : ∃ x, S'.t = x := ⟨_, rfl⟩
      rw [hsi, hstt] at SBH IS1 IS2 HBH ⊢
      rw [hsi] at HOKB
      clear hsi hstt
      have hok2 : (0 < si ∧ okb = true) ∨ (¬ 0 < si ∧ okb = false) := by
        by_cases h : 0 < si
        · exact .inl ⟨h, by rw [← HOKB.out]; exact decide_eq_true h⟩
        · exact .inr ⟨h, by rw [← HOKB.out]; exact decide_eq_false h⟩
      clear HOKB
      rcases hok2 with ⟨hpos, hok2⟩ | ⟨hpos, hok2⟩
      all_goals
        subst hok2
        refine region_start [0, 0, 2, 6, 14, 30, 62, 127, 255, 511, 511, 1535, 3583, 7679, 16383, 32767, 65535, 131071, 262143, 524287, 1048575, 2097151, 4194303, 262143, 8650751, 25427967, 58982399, 126091263, 268435455, 536870911, 1073741823, 2147483647, 4294967295, 8589934591, 17179869183, 34359738367, 2147483647, 70866960383, 208305913855, 483183820799, 1032939634687, 2199023255551, 4398046511103, 8796093022207] 2197143945216 (fun w' => Below wH.heap.size wH w') (by kernel_rfl) ?_
        refine stage_heads [0, 1, 2, 3, 4, 5, 6, 7, 8, 9, 10, 11, 12, 13] (by kernel_rfl) (L := #[true, true, true, true, true, true, true, true, true, true, true, true, true, true, false, false, false, false, false, false, false, false, false, false, false, false, false, false, false, false, false, false, false, false, false, false, false, false, false, false, false, false, false, false]) (by kernel_rfl) (f' := 30) rfl (fun _ _ _ _ h => h) (fun w o h => ST.alloc h o) (.inr (by first | exact (Below.refl _ _).drew | exact Below.refl _ _)) ?_
        simp only [List.flatMap_cons, List.flatMap_nil, List.drop_succ_cons, List.drop_zero, List.take_succ_cons, List.take_zero, List.cons_append, List.nil_append, List.append_nil]
        iterate 14 (first | (refine heads_load _ (by rfl) (fun w' hs => by obtain ⟨q0, q1, q2, q3, q4, q5, q6, q7, q8, q9, qx, _⟩ := HBH.out.below hs; obtain ⟨t0, t1, t2, t3, _⟩ := SBH.out.below hs; go_simp; try with_reducible rfl) rfl ?_; simp only [Act.put, List.setIfInBounds_toArray, List.set_cons_zero, List.set_cons_succ]) | (refine heads_pure _ (by rfl) (fun w' => by go_simp; try with_reducible rfl) ?_; simp only [Act.put, List.setIfInBounds_toArray, List.set_cons_zero, List.set_cons_succ]) | (refine heads_skip (by rfl) ?_; simp only [Act.put, List.setIfInBounds_toArray, List.set_cons_zero, List.set_cons_succ]))
        refine heads_nil ?_
        refine stage_op 14 (by kernel_rfl) (L := #[true, true, true, true, true, true, true, true, true, true, true, true, true, true, true, false, false, false, false, false, false, false, false, false, false, false, false, false, false, false, false, false, false, false, false, false, false, false, false, false, false, false, false, false]) (by kernel_rfl) ?_
        simp only [List.drop_succ_cons, List.drop_zero, List.take_succ_cons, List.take_zero]
        go_wp2_with fail; refine (rsame_any _ _ S' S' _ (by first | exact IS1.out.below ((Below.refl _ _).drew) | exact IS1.out) (by first | exact IS2.out.below ((Below.refl _ _).drew) | exact IS2.out)).mono ?_; rintro e u14 ⟨rfl, hb14⟩; rw [SnapS.sameB_refl]; have I14 : Hid (Below wH.heap.size wH u14) := Lib.hid (by first | exact ((Below.refl _ _).drew).trans hb14 | exact hb14); clear hb14; go_wp2_with fail
        refine step_post nofun ?_
        refine stage_heads [15, 16, 17, 18, 19, 20, 21, 23, 24, 25, 26, 27] (by kernel_rfl) (L := #[true, true, true, true, true, true, true, true, true, true, true, true, true, true, true, true, true, true, true, true, true, true, false, true, true, true, true, true, false, false, false, false, false, false, false, false, false, false, false, false, false, false, false, false]) (by kernel_rfl) (f' := 17) rfl (fun _ _ _ _ h => h) (fun w o h => ST.alloc h o) (.inr (by first | exact I14.out | exact I22.out | exact I35.out)) ?_
        simp only [List.flatMap_cons, List.flatMap_nil, List.drop_succ_cons, List.drop_zero, List.take_succ_cons, List.take_zero, List.cons_append, List.nil_append, List.append_nil]
        iterate 12 (first | (refine heads_load _ (by rfl) (fun w' hs => by obtain ⟨q0, q1, q2, q3, q4, q5, q6, q7, q8, q9, qx, _⟩ := HBH.out.below hs; obtain ⟨t0, t1, t2, t3, _⟩ := SBH.out.below hs; go_simp; try with_reducible rfl) rfl ?_; simp only [Act.put, List.setIfInBounds_toArray, List.set_cons_zero, List.set_cons_succ]) | (refine heads_pure _ (by rfl) (fun w' => by go_simp; try with_reducible rfl) ?_; simp only [Act.put, List.setIfInBounds_toArray, List.set_cons_zero, List.set_cons_succ]) | (refine heads_skip (by rfl) ?_; simp only [Act.put, List.setIfInBounds_toArray, List.set_cons_zero, List.set_cons_succ]))
        refine heads_nil ?_
        refine stage_op 22 (by kernel_rfl) (L := #[true, true, true, true, true, true, true, true, true, true, true, true, true, true, true, true, true, true, true, true, true, true, true, true, true, true, true, true, false, false, false, false, false, false, false, false, false, false, false, false, false, false, false, false]) (by kernel_rfl) ?_
        simp only [List.drop_succ_cons, List.drop_zero, List.take_succ_cons, List.take_zero]
        go_wp2_with fail; refine (dsteps_any db mb tb D' _ (HDH.out.below I14.out)).mono ?_; rintro e u22 ⟨rfl, rfl⟩; have I22 := I14; go_wp2_with fail
        refine step_post (fun _ => I22.out) ?_
        refine stage_heads [28, 29, 30, 31, 32, 33, 34, 36, 37, 38, 39, 40] (by kernel_rfl) (L := #[true, true, true, true, true, true, true, true, true, true, true, true, true, true, true, true, true, true, true, true, true, true, true, true, true, true, true, true, true, true, true, true, true, true, true, false, true, true, true, true, true, false, false, false]) (by kernel_rfl) (f' := 4) rfl (fun _ _ _ _ h => h) (fun w o h => ST.alloc h o) (.inr (by first | exact I14.out | exact I22.out | exact I35.out)) ?_
        simp only [List.flatMap_cons, List.flatMap_nil, List.drop_succ_cons, List.drop_zero, List.take_succ_cons, List.take_zero, List.cons_append, List.nil_append, List.append_nil]
        iterate 12 (first | (refine heads_load _ (by rfl) (fun w' hs => by obtain ⟨q0, q1, q2, q3, q4, q5, q6, q7, q8, q9, qx, _⟩ := HBH.out.below hs; obtain ⟨t0, t1, t2, t3, _⟩ := SBH.out.below hs; go_simp; try with_reducible rfl) rfl ?_; simp only [Act.put, List.setIfInBounds_toArray, List.set_cons_zero, List.set_cons_succ]) | (refine heads_pure _ (by rfl) (fun w' => by go_simp; try with_reducible rfl) ?_; simp only [Act.put, List.setIfInBounds_toArray, List.set_cons_zero, List.set_cons_succ]) | (refine heads_skip (by rfl) ?_; simp only [Act.put, List.setIfInBounds_toArray, List.set_cons_zero, List.set_cons_succ]))
        refine heads_nil ?_
        refine stage_op 35 (by kernel_rfl) (L := #[true, true, true, true, true, true, true, true, true, true, true, true, true, true, true, true, true, true, true, true, true, true, true, true, true, true, true, true, true, true, true, true, true, true, true, true, true, true, true, true, true, false, false, false]) (by kernel_rfl) ?_
        simp only [List.drop_succ_cons, List.drop_zero, List.take_succ_cons, List.take_zero]
        go_wp2_with fail; refine (lfiles_any db mb tb D' _ (HDH.out.below I22.out) GD.out.wf).mono ?_; rintro e u35 ⟨v35, rfl, hs35, hb35⟩; have I35 : Hid (Below wH.heap.size wH u35) := Lib.hid (I22.out.trans (hb35.mono I22.out.size)); have S35 := Lib.hid hs35; clear hs35 hb35; go_wp2_with fail
        refine step_post (fun _ => I35.out) ?_
        refine stage_op 41 (by kernel_rfl) (L := #[true, true, true, true, true, true, true, true, true, true, true, true, true, true, true, true, true, true, true, true, true, true, true, true, true, true, true, true, true, true, true, true, true, true, true, true, true, true, true, true, true, true, false, false]) (by kernel_rfl) ?_
        simp only [List.drop_succ_cons, List.drop_zero, List.take_succ_cons, List.take_zero]
        go_wp2_with fail; refine (rsameL_any _ _ D'.files _ S35.out (HSH.out.below I35.out) (by have := GD.out.few; omega)).mono ?_; rintro e u41 ⟨rfl, hb41⟩; have I41 : Hid (Below wH.heap.size wH u41) := Lib.hid (I35.out.trans (hb41.mono I35.out.size)); clear hb41; go_wp2_with fail
        refine step_post nofun ?_
        refine stage_heads [42, 43] (by kernel_rfl) (L := #[true, true, true, true, true, true, true, true, true, true, true, true, true, true, true, true, true, true, true, true, true, true, true, true, true, true, true, true, true, true, true, true, true, true, true, true, true, true, true, true, true, true, true, true]) (by kernel_rfl) (f' := 0) rfl (fun _ _ _ _ h => h) (fun w o h => ST.alloc h o) (.inl (by kernel_rfl)) ?_
        simp only [List.flatMap_cons, List.flatMap_nil, List.drop_succ_cons, List.drop_zero, List.take_succ_cons, List.take_zero, List.cons_append, List.nil_append, List.append_nil]
        iterate 2 (first | (refine heads_pure _ (by rfl) (fun w' => by go_simp; try with_reducible rfl) ?_; simp only [Act.put, List.setIfInBounds_toArray, List.set_cons_zero, List.set_cons_succ]) | (refine heads_skip (by rfl) ?_; simp only [Act.put, List.setIfInBounds_toArray, List.set_cons_zero, List.set_cons_succ]))
        refine heads_nil ?_
        refine stage_done (by kernel_rfl) ?_
        go_wp2_with fail
        go_roundw
        case rel => exact ⟨j + 1, D', S', bc, by first | rfl | go_num, by omega, SD.out, HDD.out, HPH.out.below I41.out, HKH.out.below I41.out, NBC.out, NCO.out, HBC.out, BH.out.trans (I41.out.mono BH.out.size)⟩
        all_goals (show n - ((j : Int) + 1).toNat < n - ((j : Int)).toNat; omega)
    · obtain rfl : j = n := by omega
      have hj1 : ¬ (j : Int) < (j : Int) := by omega
      go_wp2_with fail
      refine (lives_any _).mono ?_
      rintro e wz ⟨rfl, hbz⟩
      have BZ := Lib.hid hbz
      clear hbz
      go_wp2_with fail
      go_ret
      exact ⟨rfl, BR.out.trans (BZ.out.mono BR.out.size)⟩
theorem splays_any (room : Int) (v : Value) (rs : List SOp) (w : World) (h : SOpsIs w v rs) : Calls Tryz.prog 6 #[.int .i64 room, v] w fun e w' => e = .returned (.bool true) ∧ Below w.heap.size w w' := by
  by_cases hb : 0 ≤ room ∧ room ≤ 1048576 ∧ sFew rs = true
  · obtain ⟨la, lc, e, _⟩ := h.1.shape
    rw [List.length_map] at e
    subst e
    exact splays_good room rs la lc w h hb.1 hb.2.1 hb.2.2
  · exact splays_bad room v rs w h hb
end Go.Proofs.YtofhccpagnkalaaGreat

/- THE STATEMENT SnapshotPlays: whatever is saved, however the power goes, and room ends, each call tells what the document says, and the snapshot and the disk are just that. For every input; no conditions. -/
namespace Go.Proofs.YtofhccpagnkalaaGreat
open Go.ChangeShapes Go.WideShapes Go.ChangeAt Go.RowKit Go.Deep Go.Proofs.Own


set_option maxRecDepth 100000 in
theorem splays_law_lifted (os : Os) (started : os.Started) (H : Type) (enc : TypeId × Value → H) :
    ReturnsInHanded {} Tryz.checked os 6 .any (Rows.snapshotPlaysSpec.pre6 enc Tryz.prog Tryz.f6 Rows.snapshotPlaysRow.domain false) (Rows.snapshotPlaysSpec.post enc Tryz.prog Tryz.f6 false true false false) := by
  refine returnsInHanded_of_change (C := Tryz.checked) own started (by kernel_rfl) Tryz.func6
    (ChangeSpec.witness6 (enc := enc) (C := Tryz.checked) false ⟨#[], #[.int .i64 0, .slice none 0 0], []⟩ 8 (by kernel_rfl) (by kernel_rfl) (by kernel_rfl) (by kernel_rfl)) ?_
  intro W base args ds gs before hval0 hW hcnd _
  have hval : ∀ (j : Nat) t v, Tryz.f6.params[j]? = some t → args[j]? = some v → Value.okWide Tryz.prog W .any base t v := hval0
  have hW' := hW
  obtain ⟨p, q, hA0, hV, _, hfz, hnd⟩ := hW
  have hA : DataW.TrodAll enc Tryz.prog W 0 (fun _ => true) true Tryz.f6.params.toList args.toList ds p := hA0
  rw [Tryz.params6] at hA hval
  obtain ⟨v0, v1, d0, d1, p0, p1, rfl, rfl, rfl, h0, h1⟩ := trodAll_two hA
  obtain ⟨z0, rfl⟩ := okWide_int Tryz.underlying3 (hval 0 3 v0 rfl rfl)
  obtain ⟨q1, n1, c1, rfl⟩ := okWide_slice Tryz.underlying70 (hval 1 70 v1 rfl rfl); obtain ⟨f1, g1⟩ := h1; obtain ⟨rs, b1⟩ := open_sops (v := .slice q1 n1 c1) g1
  refine (splays_any z0 _ rs W b1).mono fun e W' ⟨he, hb⟩ => ?_
  exact ⟨_, he, law_post laid (by kernel_rfl) ⟨4, rfl, Tryz.underlying4⟩ rfl (fun ds hds => by
    match ds, hds with
    | [x0, x1], _ => rfl) hW' hb⟩

theorem splays_law_holds : Rows.SnapshotPlaysSaid :=
  OpenClaim.holds_of_wide 6 Tryz.f6 rfl rfl rfl rfl rfl rfl rfl ⟨rfl, rfl, rfl, rfl, rfl⟩ rfl rfl rfl rfl rfl (by kernel_rfl) Tryz.func6 (by kernel_rfl)
    (of_decide_eq_true (by kernel_rfl)) (by unfold Func.isWrapper; first | (rw [if_pos (by decide +kernel)]; kernel_rfl) | (rw [if_neg (by decide +kernel)]; exact ⟨rfl, rfl⟩))
    (fun os started H enc _ => splays_law_lifted os started H enc)
#print axioms splays_law_holds
end Go.Proofs.YtofhccpagnkalaaGreat
