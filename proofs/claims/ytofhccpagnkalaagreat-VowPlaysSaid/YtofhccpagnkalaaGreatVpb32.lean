/- Several texts in one: Vlt, Vdo, Vpl, VplH. What each proves stands ahead of it; together they serve vplays_law_holds. No conditions but those stated. -/
import Derived.Test.YtofhccpagnkalaaGreatVpb16
import Derived.Test.YtofhccpagnkalaaGreatVpb25
import Derived.Test.YtofhccpagnkalaaGreatVpb10
import Derived.Test.YtofhccpagnkalaaGreatVpb30
import Derived.Test.YtofhccpagnkalaaGreatVpb28
import Derived.Test.YtofhccpagnkalaaGreatVpb31
/- Arguments that are slices of the law's calls (.Z seat), and Light; no conditions. -/
namespace Go.Proofs.YtofhccpagnkalaaGreat
open Go.ChangeShapes Go.WideShapes Go.ChangeAt Go.RowKit Go.Deep Go.Proofs.Own

/-- A state's cells. -/
def stV (s : Int × Int) : List Value := [.int .u64 s.1, .int .i64 s.2]
/-- A call: its kind, its number, its state, its tears. -/
structure VOp where
  k : Int
  n : Int
  t : Int
  v : Int
  tv : Value
  ts : List (Nat × Nat)
def opV (r : VOp) : List Value := [.int .i64 r.k, .int .i64 r.n, .int .u64 r.t, .int .i64 r.v, r.tv]
def OpOk (w : World) (r : VOp) : Prop := r.n ≤ 9223372036854775807 ∧ 0 ≤ r.t ∧ TearsIs w r.tv r.ts
/-- v: the calls rs. -/
def OpsIs (w : World) (v : Value) (rs : List VOp) : Prop := SRow w 5 v (rs.map opV) ∧ (∀ r ∈ rs, OpOk w r) ∧ rs.length ≤ maxLen
theorem cellsState : Tryz.prog.cellsOf 59 = 2 := by kernel_rfl
theorem cellsVOp : Tryz.prog.cellsOf 66 = 5 := by kernel_rfl
theorem cellsTears : Tryz.prog.cellsOf 64 = 1 := by kernel_rfl
section
variable {H : Type} {enc : TypeId × Value → H} {W : World}
set_option maxRecDepth 100000 in
theorem open_state1 {n : Nat} {cs : List Value} {y : DataW H × List MemPlace} (h : DataW.trod enc Tryz.prog W 0 (fun _ => true) true n 59 cs = some y) : ∃ s : Int × Int, cs = stV s ∧ 0 ≤ s.1 := by
  obtain ⟨xs, k, _, _, hl, hxl, hg⟩ := DataW.trod_struct Tryz.underlying59 h
  rw [cellsState] at hl
  match cs, hl with
  | [c0, c1], _ =>
    match xs, hxl with
    | [y0, y1], _ =>
      have g0 := hg 0 _ rfl
      have g1 := hg 1 _ rfl
      simp only [List.getElem_toArray, List.getElem_cons_zero, List.getElem_cons_succ] at g0 g1
      rw [cellsU64] at g0
      rw [cellsInt] at g1
      simp only [List.drop_zero, List.drop_succ_cons, List.take_succ_cons, List.take_zero, List.getElem?_cons_zero, List.getElem?_cons_succ] at g0 g1
      obtain ⟨z0, e0, _, w0⟩ := DataW.trod_int Tryz.underlying27 g0
      obtain rfl : c0 = .int .u64 z0 := by simpa using e0
      obtain ⟨z1, e1, _, w1⟩ := DataW.trod_int Tryz.underlying3 g1
      obtain rfl : c1 = .int .i64 z1 := by simpa using e1
      exact ⟨(z0, z1), rfl, (u64_range w0).1⟩
set_option maxRecDepth 100000 in
theorem open_vop {n : Nat} {cs : List Value} {y : DataW H × List MemPlace} (h : DataW.trod enc Tryz.prog W 0 (fun _ => true) true n 66 cs = some y) : ∃ r : VOp, cs = opV r ∧ OpOk W r := by
  obtain ⟨xs, k, _, _, hl, hxl, hg⟩ := DataW.trod_struct Tryz.underlying66 h
  rw [cellsVOp] at hl
  match cs, hl with
  | [c0, c1, c2, c3, c4], _ =>
    match xs, hxl with
    | [y0, y1, y2, y3], _ =>
      have g0 := hg 0 _ rfl
      have g1 := hg 1 _ rfl
      have g2 := hg 2 _ rfl
      have g3 := hg 3 _ rfl
      simp only [List.getElem_toArray, List.getElem_cons_zero, List.getElem_cons_succ] at g0 g1 g2 g3
      rw [cellsInt] at g0 g1
      rw [cellsState] at g2
      rw [cellsTears] at g3
      simp only [List.drop_zero, List.drop_succ_cons, List.take_succ_cons, List.take_zero, List.getElem?_cons_zero, List.getElem?_cons_succ] at g0 g1 g2 g3
      obtain ⟨z0, e0, _, w0⟩ := DataW.trod_int Tryz.underlying3 g0
      obtain rfl : c0 = .int .i64 z0 := by simpa using e0
      obtain ⟨z1, e1, _, w1⟩ := DataW.trod_int Tryz.underlying3 g1
      obtain rfl : c1 = .int .i64 z1 := by simpa using e1
      obtain ⟨⟨t, v⟩, e2, h2⟩ := open_state1 g2
      simp only [stV, List.cons.injEq, and_true] at e2
      obtain ⟨rfl, rfl⟩ := e2
      obtain ⟨ts, h3⟩ := open_tears g3
      exact ⟨⟨z0, z1, t, v, c4, ts⟩, rfl, (i64_range w1).2, h2, h3⟩
set_option maxRecDepth 100000 in
theorem open_vops {fuel : Nat} {v : Value} {x : DataW H × List MemPlace} (hf : DataW.trod enc Tryz.prog W 0 (fun _ => true) true fuel 61 [v] = some x) : ∃ rs, OpsIs W v rs := by
  obtain ⟨rs, h1, h2⟩ := open_rows (val := opV) (Ok := OpOk W) Tryz.underlying61 cellsVOp (by decide) (fun n cs y h => open_vop h) hf
  exact ⟨rs, h1, h2⟩
end
theorem OpsIs.below {w w' : World} {v : Value} {rs : List VOp} (h : OpsIs w v rs) (hb : Below w.heap.size w w') : OpsIs w' v rs := ⟨h.1.below hb, fun r hr => ⟨(h.2.1 r hr).1, (h.2.1 r hr).2.1, (h.2.1 r hr).2.2.below hb⟩, h.2.2⟩
/-- The cells of a call in block b from o on. -/
structure OC (w : World) (b o : Nat) (r : VOp) : Prop where
  c0 : w.cell? ⟨b, o, none⟩ = some (.int .i64 r.k)
  c1 : w.cell? ⟨b, o + 1, none⟩ = some (.int .i64 r.n)
  c2 : w.cell? ⟨b, o + 2, none⟩ = some (.int .u64 r.t)
  c3 : w.cell? ⟨b, o + 3, none⟩ = some (.int .i64 r.v)
  c4 : w.cell? ⟨b, o + 4, none⟩ = some r.tv
theorem OC.kept {w w' : World} {b o : Nat} {r : VOp} {S : Nat → Prop} (h : OC w b o r) (hk : Kept w w' S) (hs : ¬ S b) : OC w' b o r :=
  ⟨hk.cell h.c0 hs, hk.cell h.c1 hs, hk.cell h.c2 hs, hk.cell h.c3 hs, hk.cell h.c4 hs⟩
theorem OC.below {w w' : World} {b o : Nat} {r : VOp} (h : OC w b o r) (hb : Below w.heap.size w w') : OC w' b o r := h.kept (Kept.of_below hb (S := fun _ => False) fun k h1 h2 => by omega) (fun h => h)
theorem OC.box (w : World) (r : VOp) : OC (w.alloc (.cells #[.int .i64 r.k, .int .i64 r.n, .int .u64 r.t, .int .i64 r.v, r.tv] 66)) w.heap.size 0 r := ⟨by go_cell, by go_cell, by go_cell, by go_cell, by go_cell⟩
theorem OpsIs.at {w : World} {a : Option Addr} {n c : Nat} {rs : List VOp} (h : OpsIs w (.slice a n c) rs) {j : Nat} {r : VOp} (hj : rs[j]? = some r) : ∃ b o, a = some ⟨b, o, none⟩ ∧ b < w.heap.size ∧ OC w b (o + j * 5) r := by
  obtain ⟨hl, he⟩ := List.getElem?_eq_some_iff.1 hj
  obtain ⟨b, o, h1, h2, h3⟩ := h.1.at (j := j) (by rw [List.length_map]; exact hl)
  rw [List.getElem_map, he] at h3
  exact ⟨b, o, h1, h2, by have := h3 0 _ rfl; rwa [Nat.add_zero] at this, h3 1 _ rfl, h3 2 _ rfl, h3 3 _ rfl, h3 4 _ rfl⟩
theorem TearsIs.apart {w : World} {a : Option Addr} {n c : Nat} {ts : List (Nat × Nat)} (h : TearsIs w (.slice a n c) ts) {R : Nat → Prop} (hR : ∀ k, R k → w.heap.size ≤ k) : ts = [] ∨ ∀ b, (Value.slice a n c).ownBlock = some b → ¬ R b := by
  rcases ts with _ | ⟨x, ts⟩
  · exact .inl rfl
  · obtain ⟨_, _, b', o, rfl, h, _⟩ := h.head
    refine .inr fun b hb e => ?_
    obtain rfl : b' = b := Option.some.inj hb
    have := hR _ e
    have := World.block_lt_of_cell? _ _ h
    simp only at this
    omega

def vLight (rs : List VOp) : Bool := rs.all (fun r => decide (r.ts.length ≤ 40)) && decide (rs.length ≤ 120)
open Go.Maps Go.Shelf in
set_option maxHeartbeats 1600000 in
set_option maxRecDepth 20000 in
theorem vlight_any (v : Value) (rs : List VOp) (w : World) (h : OpsIs w v rs) : Calls Tryz.prog 22 #[v] w fun e w' => e = .returned (.bool (vLight rs)) ∧ Below w.heap.size w w' := by
  obtain ⟨la, lc, rfl, _⟩ := h.1.shape
  rw [List.length_map] at h ⊢
  obtain ⟨n, hn⟩ : ∃ n, rs.length = n := ⟨_, rfl⟩
  have HN := Lib.hid hn
  have HL := Lib.hid h
  have hmx := h.2.2
  rw [hn] at HL hmx ⊢
  unfold maxLen at hmx
  clear h hn
  go_enter Tryz.func22, Tryz.ntmps22
  go_wp2_with fail
  go_loopw [7] (fun i wr => ∃ j : Nat, i = .int .i64 j ∧ j ≤ n ∧ (∀ r ∈ rs.take j, r.ts.length ≤ 40) ∧ Below w.heap.size w wr) (fun i _ => n - (intOf i).toNat)
  case atStart => exact ⟨0, rfl, by omega, by simp, Below.refl _ _⟩
  case round =>
    obtain ⟨j, rfl, hj, hall, hb⟩ := hrel
    have BR := Lib.hid hb
    have HA := Lib.hid hall
    clear hb hall
    by_cases hlt : j < n
    · obtain ⟨r, hr, hm⟩ := getAt (l := rs) (j := j) (by rw [HN.out]; exact hlt)
      obtain ⟨b, o, rfl, hbl, hc⟩ := (HL.out.below BR.out).at hr
      obtain ⟨ta, tc, htv, _⟩ := ((HL.out.2.1 r hm).2.2).1.shape
      rw [List.length_map] at htv
      have HR := Lib.hid hr
      have HM := Lib.hid hm
      obtain ⟨x0, x1, x2, x3, x4⟩ := hc
      rw [htv] at x4
      clear hr hm htv
      obtain ⟨m, hm⟩ : ∃ m, r.ts.length = m := ⟨_, rfl⟩
      have HT := Lib.hid hm
      rw [hm] at x4
      clear hm
      by_cases h40 : m ≤ 40
      · have b1 : ¬ (40 : Int) < (m : Int) := by omega
        go_wp2_with fail
        go_roundw
        case rel =>
          refine ⟨j + 1, by first | rfl | go_num, by omega, fun q hq => ?_, BR.out.alloc BR.out.size _⟩
          rw [List.take_add_one, HR.out] at hq
          rcases List.mem_append.1 hq with hq | hq
          · exact HA.out q hq
          · obtain rfl := List.mem_singleton.1 hq
            rw [HT.out]
            exact h40
        all_goals (show n - ((j : Int) + 1).toNat < n - ((j : Int)).toNat; omega)
      · have b1 : (40 : Int) < (m : Int) := by omega
        have HV : Hid (vLight rs = false) := Lib.hid (by
          unfold vLight
          have : rs.all (fun r => decide (r.ts.length ≤ 40)) = false := by
            rw [List.all_eq_false]
            exact ⟨r, HM.out, by rw [HT.out]; simpa using h40⟩
          rw [this]
          rfl)
        go_wp2_with fail
        go_ret
        exact ⟨by rw [HV.out]; rfl, BR.out.alloc BR.out.size _⟩
    · obtain rfl : j = n := by omega
      have hal : rs.all (fun r => decide (r.ts.length ≤ 40)) = true := by
        rw [List.all_eq_true]
        intro r hr
        have := HA.out r (by rw [List.take_of_length_le (by rw [HN.out]; exact Nat.le_refl _)]; exact hr)
        simpa using this
      by_cases h1 : j ≤ 120
      · have b1 : (j : Int) ≤ 120 := by omega
        have HV : Hid (vLight rs = true) := Lib.hid (by unfold vLight; rw [hal, HN.out]; simpa using h1)
        clear hal
        go_wp2_with fail
        go_ret
        exact ⟨by rw [HV.out]; rfl, BR.out⟩
      · have b1 : ¬ (j : Int) ≤ 120 := by omega
        have HV : Hid (vLight rs = false) := Lib.hid (by unfold vLight; rw [hal, HN.out]; simpa using h1)
        clear hal
        go_wp2_with fail
        go_ret
        exact ⟨by rw [HV.out]; rfl, BR.out⟩
end Go.Proofs.YtofhccpagnkalaaGreat

/- The law VowPlays: do, both ways; contract; no conditions but the ranges. -/
namespace Go.Proofs.YtofhccpagnkalaaGreat
open Go.RowKit Go.Maps Go.Proofs.Own

theorem open_calmD {D : DiskS} (h : Calm D) : Calm (vopenD D).1 := by
  obtain ⟨g1, g2, _⟩ := gone_calm h
  unfold vopenD
  rw [if_neg (by rw [g1]; decide)]
  generalize (vgoneD D nVowN).1 = E at *
  cases e : findFile nVow E.files with
  | none =>
    have h31 : fileE E nVow = 31 := by unfold fileE; rw [if_neg (by rw [g2.1]; decide), if_pos e]
    unfold settleD
    rw [if_pos h31]
    exact g2
  | some f =>
    have h0 : fileE E nVow = 0 := by unfold fileE; rw [if_neg (by rw [g2.1]; decide), if_neg (by rw [e]; exact nofun)]
    unfold settleD
    rw [if_neg (by rw [h0]; decide), if_neg (by rw [h0]; decide)]
    have hs : (settle1 E).2 = 0 ∧ Calm (settle1 E).1 ∧ ∃ f', findFile nVow (settle1 E).1.files = some f' := by
      unfold settle1
      rw [getF_some e]
      split
      · obtain ⟨c1, c2, c3⟩ := cut_calm g2 e (lastR f.all).g (by omega)
        exact ⟨c1, c2, _, c3⟩
      · exact ⟨rfl, g2, _, e⟩
    obtain ⟨s1, s2, f', s3⟩ := hs
    rw [if_neg (by rw [s1]; decide)]
    exact (sync_calm s2 s3).2.1
theorem TearsIs.keptIf {w w' : World} {v : Value} {ts : List (Nat × Nat)} {S : Nat → Prop} (h : TearsIs w v ts) (hk : Kept w w' S) (hs : ts = [] ∨ ∀ b, v.ownBlock = some b → ¬ S b) : TearsIs w' v ts :=
  ⟨h.1.kept hk (hs.imp (fun e => by rw [e]; rfl) id), h.2⟩
theorem PairIs.below {w w' : World} {bo db mb tb : Nat} {p : Option Addr} {D : DiskS} {t v : Int} (h : PairIs w bo db mb tb p D t v) (hb : Below w.heap.size w w') : PairIs w' bo db mb tb p D t v :=
  let ⟨a, n, c, h1, h2, h3, h4⟩ := h.sl
  ⟨h.disk.below hb, h.good, ⟨a, n, c, h1, h2.below hb, h3.below hb, h4⟩, h.no⟩

/-- What do leaves. -/
def DoPost (bo db mb tb bb : Nat) (D : DiskS) (w : World) : Ending → World → Prop := fun e w' => e = .returned (.bool true) ∧ ∃ bb' D' t' v', PairIs w' bo db mb tb (some ⟨bb', 0, none⟩) D' t' v' ∧ BookIs w' bb' db t' v' ∧ ¬ Own3 db mb tb bb' ∧ bb' ≠ bo ∧ (bb' = bb ∨ w.heap.size ≤ bb') ∧ D'.down = false ∧ D'.steps ≤ D.steps + 7 ∧ Kept w w' (fun k => Own3 db mb tb k ∨ k = bo ∨ k = bb)

set_option maxHeartbeats 4000000 in
set_option maxRecDepth 20000 in
theorem vdo_crash (bo db mb tb bb : Nat) (D : DiskS) (t v : Int) (k n rt rv : Int) (ta : Option Addr) (tn tc : Nat) (ts : List (Nat × Nat)) (w : World) (h : PairIs w bo db mb tb (some ⟨bb, 0, none⟩) D t v) (hk : BookIs w bb db t v) (hnb : ¬ Own3 db mb tb bb) (hbo : bb ≠ bo) (hdn : D.down = false) (hT : TearsIs w (.slice ta tn tc) ts) (htn : ts.length = tn) (htm : ts.length ≤ 1000) (hta : ts = [] ∨ ∀ b, (Value.slice ta tn tc).ownBlock = some b → ¬ (Own3 db mb tb b ∨ b = bo ∨ b = bb)) (hn0 : n ≤ 9223372036854775807) (ht0 : 0 ≤ rt) (hst : D.steps + 7 ≤ 1000000000) (hk1 : k = 1) :
    Calls Tryz.prog 24 #[.pointer (some ⟨bo, 0, none⟩), .agg #[.int .i64 k, .int .i64 n, .int .u64 rt, .int .i64 rv, .slice ta tn tc]] w (DoPost bo db mb tb bb D w) := by
  subst hk1
  have LO : ∀ k, (Own3 db mb tb k ∨ k = bo ∨ k = bb) → k < w.heap.size := by
    obtain ⟨a, m, c, _, hb, _, _⟩ := h.sl
    rintro k (h1 | rfl | rfl)
    · exact h.disk.lt3 k h1
    · exact hb.lt
    · exact hk.lt
  have HLO := Lib.hid LO
  have NB := Lib.hid hnb
  have NBO := Lib.hid hbo
  have HDN := Lib.hid hdn
  have HTA := Lib.hid hta
  have HTM := Lib.hid htm
  have HTN := Lib.hid htn
  have HN0 := Lib.hid hn0
  have HT0 := Lib.hid ht0
  have HST := Lib.hid hst
  have AX : Below w.heap.size w (w.alloc (.cells #[.int .i64 1, .int .i64 n, .int .u64 rt, .int .i64 rv, .slice ta tn tc] 66)) := (Below.refl _ _).alloc (Nat.le_refl _) _
  have HPX := h.below AX
  have HKX := hk.below AX
  have HTX := hT.below AX
  have HOY : OC (w.alloc (.cells #[.int .i64 1, .int .i64 n, .int .u64 rt, .int .i64 rv, .slice ta tn tc] 66)) w.heap.size 0 (⟨1, n, rt, rv, .slice ta tn tc, ts⟩ : VOp) := OC.box w (⟨1, n, rt, rv, .slice ta tn tc, ts⟩ : VOp)
  clear h hk hnb hbo hdn hT htm htn hta hn0 ht0 hst LO
  go_enter Tryz.func24, Tryz.ntmps24
  have HOZ := Lib.hid HOY
  obtain ⟨x0, x1, x2, x3, x4⟩ := HOY
  rw [Nat.zero_add] at x1 x2 x3 x4
  go_wp2_with fail
  clear x0 x1 x2 x3 x4
  generalize World.alloc w _ = w0 at *
  have HP0 := Lib.hid HPX
  have HK0 := Lib.hid HKX
  have HT00 := Lib.hid HTX
  have HO0 := HOZ
  have K0 : Hid (Kept w w0 (fun k => Own3 db mb tb k ∨ k = bo ∨ k = bb)) := Lib.hid (Kept.of_below AX (fun k h1 h2 => by omega))
  have Z0 : Hid (w.heap.size < w0.heap.size) := Lib.hid (World.block_lt_of_cell? _ _ HOZ.out.c0)
  clear AX HPX HKX HTX
  refine (vreopen_any bo db mb tb (some ⟨bb, 0, none⟩) D t v _ ts w0 HP0.out HT00.out HTM.out (HTA.out.imp id (fun h b hb e => h b hb (.inl e))) (by have := HST.out; omega)).mono ?_
  rintro e w6 ⟨rfl, bc, hp6, hk6, hbc, hnc, hco, hK6⟩
  have PP := Lib.hid (And.intro hp6 (And.intro hk6 (And.intro hnc hco)))
  have BC : Hid (w.heap.size ≤ bc) := Lib.hid (by have := Z0.out; omega)
  have K6 : Hid (Kept w w6 (fun k => Own3 db mb tb k ∨ k = bo ∨ k = bb)) := Lib.hid (K0.out.trans (hK6.mono fun k _ h => h.imp id .inl))
  have HCA : Hid ((reD D ts).down = false) := Lib.hid (open_calmD (calm_boot _)).1
  have HSR := Lib.hid (reD_good HP0.out.good ts (by have := HST.out; omega)).2
  clear hp6 hk6 hbc hnc hco hK6
  go_wp2_with fail
  go_ret
  exact ⟨rfl, bc, reD D ts, _, _, PP.out.1, PP.out.2.1, PP.out.2.2.1, PP.out.2.2.2, .inr BC.out, HCA.out, by have h1 := HSR.out; omega, K6.out⟩
set_option maxHeartbeats 4000000 in
set_option maxRecDepth 20000 in
theorem vdo_arm (bo db mb tb bb : Nat) (D : DiskS) (t v : Int) (k n rt rv : Int) (ta : Option Addr) (tn tc : Nat) (ts : List (Nat × Nat)) (w : World) (h : PairIs w bo db mb tb (some ⟨bb, 0, none⟩) D t v) (hk : BookIs w bb db t v) (hnb : ¬ Own3 db mb tb bb) (hbo : bb ≠ bo) (hdn : D.down = false) (hT : TearsIs w (.slice ta tn tc) ts) (htn : ts.length = tn) (htm : ts.length ≤ 1000) (hta : ts = [] ∨ ∀ b, (Value.slice ta tn tc).ownBlock = some b → ¬ (Own3 db mb tb b ∨ b = bo ∨ b = bb)) (hn0 : n ≤ 9223372036854775807) (ht0 : 0 ≤ rt) (hst : D.steps + 7 ≤ 1000000000) (hk1 : k = 2) :
    Calls Tryz.prog 24 #[.pointer (some ⟨bo, 0, none⟩), .agg #[.int .i64 k, .int .i64 n, .int .u64 rt, .int .i64 rv, .slice ta tn tc]] w (DoPost bo db mb tb bb D w) := by
  subst hk1
  have LO : ∀ k, (Own3 db mb tb k ∨ k = bo ∨ k = bb) → k < w.heap.size := by
    obtain ⟨a, m, c, _, hb, _, _⟩ := h.sl
    rintro k (h1 | rfl | rfl)
    · exact h.disk.lt3 k h1
    · exact hb.lt
    · exact hk.lt
  have HLO := Lib.hid LO
  have NB := Lib.hid hnb
  have NBO := Lib.hid hbo
  have HDN := Lib.hid hdn
  have HTA := Lib.hid hta
  have HTM := Lib.hid htm
  have HTN := Lib.hid htn
  have HN0 := Lib.hid hn0
  have HT0 := Lib.hid ht0
  have HST := Lib.hid hst
  have AX : Below w.heap.size w (w.alloc (.cells #[.int .i64 2, .int .i64 n, .int .u64 rt, .int .i64 rv, .slice ta tn tc] 66)) := (Below.refl _ _).alloc (Nat.le_refl _) _
  have HPX := h.below AX
  have HKX := hk.below AX
  have HTX := hT.below AX
  have HOY : OC (w.alloc (.cells #[.int .i64 2, .int .i64 n, .int .u64 rt, .int .i64 rv, .slice ta tn tc] 66)) w.heap.size 0 (⟨2, n, rt, rv, .slice ta tn tc, ts⟩ : VOp) := OC.box w (⟨2, n, rt, rv, .slice ta tn tc, ts⟩ : VOp)
  clear h hk hnb hbo hdn hT htm htn hta hn0 ht0 hst LO
  go_enter Tryz.func24, Tryz.ntmps24
  have HOZ := Lib.hid HOY
  obtain ⟨x0, x1, x2, x3, x4⟩ := HOY
  rw [Nat.zero_add] at x1 x2 x3 x4
  go_wp2_with fail
  clear x0 x1 x2 x3 x4
  generalize World.alloc w _ = w0 at *
  have HP0 := Lib.hid HPX
  have HK0 := Lib.hid HKX
  have HT00 := Lib.hid HTX
  have HO0 := HOZ
  have K0 : Hid (Kept w w0 (fun k => Own3 db mb tb k ∨ k = bo ∨ k = bb)) := Lib.hid (Kept.of_below AX (fun k h1 h2 => by omega))
  have Z0 : Hid (w.heap.size < w0.heap.size) := Lib.hid (World.block_lt_of_cell? _ _ HOZ.out.c0)
  clear AX HPX HKX HTX
  obtain ⟨hd, hg, ⟨a0, m0, c0, hn, hb, hs, hap⟩, hno⟩ := HP0.out
  have HD0 := Lib.hid hd
  have G0 := Lib.hid hg
  have HNP := Lib.hid hn
  have HB0 := Lib.hid hb
  have HS0 := Lib.hid hs
  have AP0 : Hid (∀ b, (Value.slice a0 m0 c0).ownBlock = some b → ¬ (Own3 db mb tb b ∨ b = bo ∨ b = bb)) := Lib.hid (fun b h e => by
    obtain ⟨h1, h2, h3⟩ := hap b h
    rcases e with e | e | e
    · exact h1 e
    · exact h2 e
    · exact h3 _ rfl e.symm)
  have NO := Lib.hid hno
  clear hd hg hn hb hs hap hno
  have ST := Stable.from w0
  refine region_start [0, 1, 3, 7, 0, 16, 63, 127] 0 (fun w' => Below w0.heap.size w0 w') (by kernel_rfl) ?_
  refine stage_heads [0, 1, 2, 3, 4, 5] (by kernel_rfl) (L := #[true, true, true, true, true, true, false, false]) (by kernel_rfl) (f' := 2) rfl (fun _ _ _ _ h => h) (fun w o h => ST.alloc h o) (.inr (by first | exact (Below.refl _ _).drew | exact Below.refl _ _)) ?_
  simp only [List.flatMap_cons, List.flatMap_nil, List.drop_succ_cons, List.drop_zero, List.take_succ_cons, List.take_zero, List.cons_append, List.nil_append, List.append_nil]
  iterate 6 (first | (refine heads_load _ (by rfl) (fun w' hs => by obtain ⟨q0, _⟩ := HB0.out.below hs; obtain ⟨x0, x1, x2, x3, x4⟩ := HO0.out.below hs; rw [Nat.zero_add] at x1 x2 x3 x4; go_simp; try with_reducible rfl) rfl ?_; simp only [Act.put, List.setIfInBounds_toArray, List.set_cons_zero, List.set_cons_succ]) | (refine heads_pure _ (by rfl) (fun w' => by go_simp; try with_reducible rfl) ?_; simp only [Act.put, List.setIfInBounds_toArray, List.set_cons_zero, List.set_cons_succ]))
  refine heads_nil ?_
  refine stage_op 6 (by kernel_rfl) (L := #[true, true, true, true, true, true, true, false]) (by kernel_rfl) ?_
  simp only [List.drop_succ_cons, List.drop_zero, List.take_succ_cons, List.take_zero]
  go_wp2_with fail; refine (darm_any db mb tb D n _ (by first | exact HD0.out.below ((Below.refl _ _).drew) | exact HD0.out)).mono ?_; rintro e w1 ⟨rfl, hd1, hk1⟩; have HD1 := Lib.hid hd1; have K01 : Hid (Kept w0 w1 (Own3 db mb tb)) := Lib.hid (by first | exact hk1 | exact (Kept.drew _ _).trans hk1); clear hd1 hk1; go_wp2_with fail
  refine step_post nofun ?_
  refine stage_heads [7] (by kernel_rfl) (L := #[true, true, true, true, true, true, true, true]) (by kernel_rfl) (f' := 0) rfl (fun _ _ _ _ h => h) (fun w o h => ST.alloc h o) (.inl (by kernel_rfl)) ?_
  simp only [List.flatMap_cons, List.flatMap_nil, List.drop_succ_cons, List.drop_zero, List.take_succ_cons, List.take_zero, List.append_nil]
  iterate 1 (refine heads_pure _ (by rfl) (fun w' => by go_simp; try with_reducible rfl) ?_; simp only [Act.put, List.setIfInBounds_toArray, List.set_cons_zero, List.set_cons_succ])
  refine heads_nil ?_
  refine stage_done (by kernel_rfl) ?_
  clear ST
  have HB1 := Lib.hid (HB0.out.kept K01.out NO.out)
  have HS1 : Hid (SRow w1 3 (.slice a0 m0 c0) (D.files.map rfV)) := Lib.hid (HS0.out.kept K01.out (.inr fun b hb h => AP0.out b hb (.inl h)))
  have HK1 := Lib.hid (HK0.out.kept K01.out NB.out)
  have HO1 := Lib.hid (HO0.out.kept K01.out (fun h => by have := HLO.out _ (.inl h); omega))
  have HT1 := Lib.hid (HT00.out.keptIf K01.out (HTA.out.imp id fun h b hb e => h b hb (.inl e)))
  have K1 : Hid (Kept w w1 (fun k => Own3 db mb tb k ∨ k = bo ∨ k = bb)) := Lib.hid (K0.out.trans (K01.out.mono fun _ _ h => .inl h))
  clear HB0 HS0 HK0 HO0 HT00 K0 K01 HD0 HP0
  have ST := Stable.from w1
  go_wp2_with fail
  have GA := G0.out.arm n HN0.out
  have SA : (armD D n).1.steps ≤ D.steps + 4 := by rw [(armD_same D n).2.2]; omega
  refine region_start [0, 0, 2, 6, 14, 0, 32, 126, 254, 510, 510, 1023, 3071, 7167, 16383] 0 (fun w' => Below w1.heap.size w1 w') (by kernel_rfl) ?_
  refine stage_heads [0, 1, 2, 3, 4, 5, 6] (by kernel_rfl) (L := #[true, true, true, true, true, true, true, false, false, false, false, false, false, false, false]) (by kernel_rfl) (f' := 8) rfl (fun _ _ _ _ h => h) (fun w o h => ST.alloc h o) (.inr (by first | exact (Below.refl _ _).drew | exact Below.refl _ _)) ?_
  simp only [List.flatMap_cons, List.flatMap_nil, List.drop_succ_cons, List.drop_zero, List.take_succ_cons, List.take_zero, List.cons_append, List.nil_append, List.append_nil]
  iterate 7 (first | (refine heads_load _ (by rfl) (fun w' hs => by obtain ⟨q0, q1, q2, q3, q4, q5, q6, q7, q8, _⟩ := HB1.out.below hs; obtain ⟨x0, x1, x2, x3, x4⟩ := HO1.out.below hs; rw [Nat.zero_add] at x1 x2 x3 x4; go_simp; try with_reducible rfl) rfl ?_; simp only [Act.put, List.setIfInBounds_toArray, List.set_cons_zero, List.set_cons_succ]) | (refine heads_pure _ (by rfl) (fun w' => by go_simp; try with_reducible rfl) ?_; simp only [Act.put, List.setIfInBounds_toArray, List.set_cons_zero, List.set_cons_succ]))
  refine heads_nil ?_
  refine stage_op 7 (by kernel_rfl) (L := #[true, true, true, true, true, true, true, true, false, false, false, false, false, false, false]) (by kernel_rfl) ?_
  simp only [List.drop_succ_cons, List.drop_zero, List.take_succ_cons, List.take_zero]
  go_wp2_with fail; refine (rarm_new _ D n _ (RIs.new HNP.out (HS1.out.below ((Below.refl _ _).drew)))).mono ?_; rintro e w2 ⟨v2, rfl, hr2, hb2, hf2⟩; have I2 : Hid (Below w1.heap.size w1 w2) := Lib.hid (((Below.refl _ _).drew).trans hb2); obtain ⟨r, hr⟩ : ∃ r, armD D n = r := ⟨_, rfl⟩; have HR3 := Lib.hid hr; rw [hr] at hr2 HD1 GA SA ⊢; obtain ⟨D3, e3⟩ := r; simp only at hr2 HD1 GA SA ⊢; obtain ⟨a3, c3, rfl, hs2⟩ := hr2; obtain ⟨m3, hm3⟩ : ∃ k, D3.files.length = k := ⟨_, rfl⟩; have HN3 := Lib.hid hm3; rw [hm3] at hs2 hf2 ⊢; have HS2 := Lib.hid hs2; have AP3 : Hid (∀ b, (Value.slice a3 m3 c3).ownBlock = some b → ¬ (Own3 db mb tb b ∨ b = bo ∨ b = bb)) := Lib.hid (fun b hb e => (hf2 b hb).elim (fun h => AP0.out b h e) (fun h => by have h1 := HLO.out b e; have h2 := K1.out.size; have h3 : w1.heap.size ≤ b := h; omega)); clear hr hs2 hf2 hm3 hb2; go_wp2_with fail
  refine step_post nofun ?_
  refine stage_heads [8, 9, 10, 11, 12] (by kernel_rfl) (L := #[true, true, true, true, true, true, true, true, true, true, true, true, true, false, false]) (by kernel_rfl) (f' := 2) rfl (fun _ _ _ _ h => h) (fun w o h => ST.alloc h o) (.inl (by kernel_rfl)) ?_
  simp only [List.flatMap_cons, List.flatMap_nil, List.drop_succ_cons, List.drop_zero, List.take_succ_cons, List.take_zero, List.cons_append, List.nil_append, List.append_nil]
  iterate 5 (refine heads_pure _ (by rfl) (fun w' => by go_simp; try with_reducible rfl) ?_; simp only [Act.put, List.setIfInBounds_toArray, List.set_cons_zero, List.set_cons_succ])
  refine heads_nil ?_
  refine stage_op 13 (by kernel_rfl) (L := #[true, true, true, true, true, true, true, true, true, true, true, true, true, true, false]) (by kernel_rfl) ?_
  simp only [List.drop_succ_cons, List.drop_zero, List.take_succ_cons, List.take_zero]
  have HB2 := Lib.hid (HB1.out.below I2.out); obtain ⟨q0, q1, q2, q3, q4, q5, q6, _, _, fz⟩ := HB2.out; have g2 := fz 2 (by omega) (by omega); have g3 := fz 3 (by omega) (by omega); have g4 := fz 4 (by omega) (by omega); have g5 := fz 5 (by omega) (by omega); have g6 := fz 6 (by omega) (by omega); go_wp2_with fail
  refine step_post nofun ?_
  refine stage_heads [14] (by kernel_rfl) (L := #[true, true, true, true, true, true, true, true, true, true, true, true, true, true, true]) (by kernel_rfl) (f' := 0) rfl (fun _ _ _ _ h => h) (fun w o h => ST.alloc h o) (.inl (by kernel_rfl)) ?_
  simp only [List.flatMap_cons, List.flatMap_nil, List.drop_succ_cons, List.drop_zero, List.take_succ_cons, List.take_zero, List.append_nil]
  iterate 1 (refine heads_pure _ (by rfl) (fun w' => by go_simp; try with_reducible rfl) ?_; simp only [Act.put, List.setIfInBounds_toArray, List.set_cons_zero, List.set_cons_succ])
  refine heads_nil ?_
  refine stage_done (by kernel_rfl) ?_
  clear q0 q1 q2 q3 q4 q5 q6 g2 g3 g4 g5 g6 fz
  have HB3a := HB2.out.setD D3 (.slice a3 m3 c3)
  have HD3a := (HD1.out.below I2.out).setPair HB2.out.bo NO.out D3 (.slice a3 m3 c3)
  have HS3a := HS2.out.setPair HB2.out.bo D3 (.slice a3 m3 c3)
  have KB := Kept.setBO w2 bo D3 (.slice a3 m3 c3)
  have HK3a := (HK1.out.below I2.out).kept KB NBO.out
  have HO3a := (HO1.out.below I2.out).kept KB (fun h => by have := HLO.out bo (.inr (.inl rfl)); omega)
  have HT3a := (HT1.out.below I2.out).keptIf KB (HTA.out.imp id fun h b hb e => h b hb (.inr (.inl e)))
  have K3a := (K1.out.trans (Kept.of_below I2.out (fun k h1 h2 => by omega))).trans (KB.mono fun k _ h => .inr (.inl h))
  unfold setBO at HB3a HD3a HS3a HK3a HO3a HT3a K3a
  generalize World.setCell _ _ _ = w3 at *
  have HB3 := Lib.hid HB3a
  have HD3 := Lib.hid HD3a
  have HS3 := Lib.hid HS3a
  have HK3 := Lib.hid HK3a
  have HO3 := Lib.hid HO3a
  have HT3 := Lib.hid HT3a
  have K3 : Hid (Kept w w3 (fun k => Own3 db mb tb k ∨ k = bo ∨ k = bb)) := Lib.hid K3a
  have G3 := Lib.hid GA
  have ZS3 := Lib.hid SA
  clear KB HB3a HD3a HS3a HK3a HO3a HT3a K3a GA SA HB1 HD1 HS1 HK1 HO1 HT1 K1 HS2 HB2 ST
  obtain ⟨t3, ht3⟩ : ∃ x, t = x := ⟨_, rfl⟩
  obtain ⟨v3, hv3⟩ : ∃ x, v = x := ⟨_, rfl⟩
  rw [ht3, hv3] at HB3 HK3
  clear ht3 hv3
  obtain ⟨dn, hdd⟩ : ∃ x, D3.down = x := ⟨_, rfl⟩
  have HDD := Lib.hid hdd
  clear hdd
  have e1 : ((e3 : Int) != (e3 : Int)) = false := bne_self_eq_false _
  have e2 : (dn != dn) = false := bne_self_eq_false _
  have ST := Stable.from w3
  go_wp2_with fail
  refine region_start [0, 0, 3, 7, 15, 31, 63, 127, 255, 15, 527, 1551, 3599, 7695, 16383, 32767] 256 (fun w' => Below w3.heap.size w3 w') (by kernel_rfl) ?_
  refine stage_heads [0, 1, 2, 3, 4, 5, 6, 7, 9, 10, 11, 12, 13] (by kernel_rfl) (L := #[true, true, true, true, true, true, true, true, false, true, true, true, true, true, false, false]) (by kernel_rfl) (f' := 3) rfl (fun _ _ _ _ h => h) (fun w o h => ST.alloc h o) (.inr (by first | exact (Below.refl _ _).drew | exact Below.refl _ _)) ?_
  simp only [List.flatMap_cons, List.flatMap_nil, List.drop_succ_cons, List.drop_zero, List.take_succ_cons, List.take_zero, List.cons_append, List.nil_append, List.append_nil]
  iterate 13 (first | (refine heads_load _ (by rfl) (fun w' hs => by obtain ⟨q0, q1, q2, q3, q4, q5, q6, q7, q8, _⟩ := HB3.out.below hs; rw [HDD.out] at q4; go_simp; try with_reducible rfl) rfl ?_; simp only [Act.put, List.setIfInBounds_toArray, List.set_cons_zero, List.set_cons_succ]) | (refine heads_pure _ (by rfl) (fun w' => by go_simp; try with_reducible rfl) ?_; simp only [Act.put, List.setIfInBounds_toArray, List.set_cons_zero, List.set_cons_succ]) | (refine heads_skip (by rfl) ?_; simp only [Act.put, List.setIfInBounds_toArray, List.set_cons_zero, List.set_cons_succ]))
  refine heads_nil ?_
  refine stage_op 8 (by kernel_rfl) (L := #[true, true, true, true, true, true, true, true, true, true, true, true, true, true, false, false]) (by kernel_rfl) ?_
  simp only [List.drop_succ_cons, List.drop_zero, List.take_succ_cons, List.take_zero]
  go_wp2_with fail; refine (ddown_any db mb tb D3 _ (by first | exact HD3.out.below ((Below.refl _ _).drew) | exact HD3.out)).mono ?_; rintro e w4 ⟨rfl, rfl⟩; rw [HDD.out]; go_wp2_with fail
  refine step_post (fun _ => (Below.refl _ _).drew) ?_
  refine stage_heads [14, 15] (by kernel_rfl) (L := #[true, true, true, true, true, true, true, true, true, true, true, true, true, true, true, true]) (by kernel_rfl) (f' := 0) rfl (fun _ _ _ _ h => h) (fun w o h => ST.alloc h o) (.inl (by kernel_rfl)) ?_
  simp only [List.flatMap_cons, List.flatMap_nil, List.drop_succ_cons, List.drop_zero, List.take_succ_cons, List.take_zero, List.cons_append, List.nil_append, List.append_nil]
  iterate 2 (first | (refine heads_pure _ (by rfl) (fun w' => by go_simp; try with_reducible rfl) ?_; simp only [Act.put, List.setIfInBounds_toArray, List.set_cons_zero, List.set_cons_succ]) | (refine heads_skip (by rfl) ?_; simp only [Act.put, List.setIfInBounds_toArray, List.set_cons_zero, List.set_cons_succ]))
  refine heads_nil ?_
  refine stage_done (by kernel_rfl) ?_
  have BD : Below w3.heap.size w3 w3.drew := (Below.refl _ _).drew
  have HD5 := Lib.hid (HD3.out.below BD)
  have HB5 := Lib.hid (HB3.out.below BD)
  have HS5 := Lib.hid (HS3.out.below BD)
  have HK5 := Lib.hid (HK3.out.below BD)
  have HO5 := Lib.hid (HO3.out.below BD)
  have HT5 := Lib.hid (HT3.out.below BD)
  have K5 : Hid (Kept w w3.drew (fun k => Own3 db mb tb k ∨ k = bo ∨ k = bb)) := Lib.hid (K3.out.trans (Kept.drew _ _))
  clear BD ST HD3 HB3 HS3 HK3 HO3 HT3 K3
  generalize w3.drew = w5 at *
  obtain ⟨q0, q1, q2, q3, q4, q5, q6, q7, q8, _⟩ := HB5.out
  rw [HDD.out] at q4
  cases dn
  · have HUP : Hid (D3.down = false) := HDD
    go_wp2_with fail
    go_ret
    exact ⟨rfl, bb, D3, t3, v3, ⟨HD5.out, G3.out, ⟨a3, m3, c3, HN3.out, HB5.out, HS5.out, fun b hb => ⟨fun h => AP3.out b hb (.inl h), fun h => AP3.out b hb (.inr (.inl h)), fun q hq e => AP3.out b hb (.inr (.inr (by obtain rfl := Option.some.inj hq; exact e.symm)))⟩⟩, NO.out⟩, HK5.out, NB.out, NBO.out, .inl rfl, HUP.out, by have := ZS3.out; omega, K5.out⟩
  · obtain ⟨x0, x1, x2, x3, x4⟩ := HO5.out
    go_wp2_with fail
    refine (vreopen_any bo db mb tb (some ⟨bb, 0, none⟩) D3 t3 v3 _ ts w5 ⟨HD5.out, G3.out, ⟨a3, m3, c3, HN3.out, HB5.out, HS5.out, fun b hb => ⟨fun h => AP3.out b hb (.inl h), fun h => AP3.out b hb (.inr (.inl h)), fun q hq e => AP3.out b hb (.inr (.inr (by obtain rfl := Option.some.inj hq; exact e.symm)))⟩⟩, NO.out⟩ HT5.out HTM.out (HTA.out.imp id (fun h b hb e => h b hb (.inl e))) (by have := ZS3.out; have := HST.out; omega)).mono ?_
    rintro e w6 ⟨rfl, bc, hp6, hk6, hbc, hnc, hco, hK6⟩
    have PP := Lib.hid (And.intro hp6 (And.intro hk6 (And.intro hnc hco)))
    have BC : Hid (w.heap.size ≤ bc) := Lib.hid (Nat.le_trans K5.out.size hbc)
    have K6 : Hid (Kept w w6 (fun k => Own3 db mb tb k ∨ k = bo ∨ k = bb)) := Lib.hid (K5.out.trans (hK6.mono fun k _ h => h.imp id .inl))
    have HCA : Hid ((reD D3 ts).down = false) := Lib.hid (open_calmD (calm_boot _)).1
    have HSR := Lib.hid (reD_good G3.out ts (by have := ZS3.out; have := HST.out; omega)).2
    clear hp6 hk6 hbc hnc hco hK6 x0 x1 x2 x3 x4
    go_wp2_with fail
    go_ret
    exact ⟨rfl, bc, reD D3 ts, _, _, PP.out.1, PP.out.2.1, PP.out.2.2.1, PP.out.2.2.2, .inr BC.out, HCA.out, by have h1 := HSR.out; have h2 := ZS3.out; omega, K6.out⟩
set_option maxHeartbeats 4000000 in
set_option maxRecDepth 20000 in
theorem vdo_resize (bo db mb tb bb : Nat) (D : DiskS) (t v : Int) (k n rt rv : Int) (ta : Option Addr) (tn tc : Nat) (ts : List (Nat × Nat)) (w : World) (h : PairIs w bo db mb tb (some ⟨bb, 0, none⟩) D t v) (hk : BookIs w bb db t v) (hnb : ¬ Own3 db mb tb bb) (hbo : bb ≠ bo) (hdn : D.down = false) (hT : TearsIs w (.slice ta tn tc) ts) (htn : ts.length = tn) (htm : ts.length ≤ 1000) (hta : ts = [] ∨ ∀ b, (Value.slice ta tn tc).ownBlock = some b → ¬ (Own3 db mb tb b ∨ b = bo ∨ b = bb)) (hn0 : n ≤ 9223372036854775807) (ht0 : 0 ≤ rt) (hst : D.steps + 7 ≤ 1000000000) (hk1 : k = 3) :
    Calls Tryz.prog 24 #[.pointer (some ⟨bo, 0, none⟩), .agg #[.int .i64 k, .int .i64 n, .int .u64 rt, .int .i64 rv, .slice ta tn tc]] w (DoPost bo db mb tb bb D w) := by
  subst hk1
  have LO : ∀ k, (Own3 db mb tb k ∨ k = bo ∨ k = bb) → k < w.heap.size := by
    obtain ⟨a, m, c, _, hb, _, _⟩ := h.sl
    rintro k (h1 | rfl | rfl)
    · exact h.disk.lt3 k h1
    · exact hb.lt
    · exact hk.lt
  have HLO := Lib.hid LO
  have NB := Lib.hid hnb
  have NBO := Lib.hid hbo
  have HDN := Lib.hid hdn
  have HTA := Lib.hid hta
  have HTM := Lib.hid htm
  have HTN := Lib.hid htn
  have HN0 := Lib.hid hn0
  have HT0 := Lib.hid ht0
  have HST := Lib.hid hst
  have AX : Below w.heap.size w (w.alloc (.cells #[.int .i64 3, .int .i64 n, .int .u64 rt, .int .i64 rv, .slice ta tn tc] 66)) := (Below.refl _ _).alloc (Nat.le_refl _) _
  have HPX := h.below AX
  have HKX := hk.below AX
  have HTX := hT.below AX
  have HOY : OC (w.alloc (.cells #[.int .i64 3, .int .i64 n, .int .u64 rt, .int .i64 rv, .slice ta tn tc] 66)) w.heap.size 0 (⟨3, n, rt, rv, .slice ta tn tc, ts⟩ : VOp) := OC.box w (⟨3, n, rt, rv, .slice ta tn tc, ts⟩ : VOp)
  clear h hk hnb hbo hdn hT htm htn hta hn0 ht0 hst LO
  go_enter Tryz.func24, Tryz.ntmps24
  have HOZ := Lib.hid HOY
  obtain ⟨x0, x1, x2, x3, x4⟩ := HOY
  rw [Nat.zero_add] at x1 x2 x3 x4
  go_wp2_with fail
  clear x0 x1 x2 x3 x4
  generalize World.alloc w _ = w0 at *
  have HP0 := Lib.hid HPX
  have HK0 := Lib.hid HKX
  have HT00 := Lib.hid HTX
  have HO0 := HOZ
  have K0 : Hid (Kept w w0 (fun k => Own3 db mb tb k ∨ k = bo ∨ k = bb)) := Lib.hid (Kept.of_below AX (fun k h1 h2 => by omega))
  have Z0 : Hid (w.heap.size < w0.heap.size) := Lib.hid (World.block_lt_of_cell? _ _ HOZ.out.c0)
  clear AX HPX HKX HTX
  obtain ⟨hd, hg, ⟨a0, m0, c0, hn, hb, hs, hap⟩, hno⟩ := HP0.out
  have HD0 := Lib.hid hd
  have G0 := Lib.hid hg
  have HNP := Lib.hid hn
  have HB0 := Lib.hid hb
  have HS0 := Lib.hid hs
  have AP0 : Hid (∀ b, (Value.slice a0 m0 c0).ownBlock = some b → ¬ (Own3 db mb tb b ∨ b = bo ∨ b = bb)) := Lib.hid (fun b h e => by
    obtain ⟨h1, h2, h3⟩ := hap b h
    rcases e with e | e | e
    · exact h1 e
    · exact h2 e
    · exact h3 _ rfl e.symm)
  have NO := Lib.hid hno
  clear hd hg hn hb hs hap hno
  have ST := Stable.from w0
  refine region_start [0, 1, 3, 7, 0, 16, 63, 127] 0 (fun w' => Below w0.heap.size w0 w') (by kernel_rfl) ?_
  refine stage_heads [0, 1, 2, 3, 4, 5] (by kernel_rfl) (L := #[true, true, true, true, true, true, false, false]) (by kernel_rfl) (f' := 2) rfl (fun _ _ _ _ h => h) (fun w o h => ST.alloc h o) (.inr (by first | exact (Below.refl _ _).drew | exact Below.refl _ _)) ?_
  simp only [List.flatMap_cons, List.flatMap_nil, List.drop_succ_cons, List.drop_zero, List.take_succ_cons, List.take_zero, List.cons_append, List.nil_append, List.append_nil]
  iterate 6 (first | (refine heads_load _ (by rfl) (fun w' hs => by obtain ⟨q0, _⟩ := HB0.out.below hs; obtain ⟨x0, x1, x2, x3, x4⟩ := HO0.out.below hs; rw [Nat.zero_add] at x1 x2 x3 x4; go_simp; try with_reducible rfl) rfl ?_; simp only [Act.put, List.setIfInBounds_toArray, List.set_cons_zero, List.set_cons_succ]) | (refine heads_pure _ (by rfl) (fun w' => by go_simp; try with_reducible rfl) ?_; simp only [Act.put, List.setIfInBounds_toArray, List.set_cons_zero, List.set_cons_succ]))
  refine heads_nil ?_
  refine stage_op 6 (by kernel_rfl) (L := #[true, true, true, true, true, true, true, false]) (by kernel_rfl) ?_
  simp only [List.drop_succ_cons, List.drop_zero, List.take_succ_cons, List.take_zero]
  go_wp2_with fail; refine (dresize_any db mb tb D n _ (by first | exact HD0.out.below ((Below.refl _ _).drew) | exact HD0.out)).mono ?_; rintro e w1 ⟨rfl, hd1, hk1⟩; have HD1 := Lib.hid hd1; have K01 : Hid (Kept w0 w1 (Own3 db mb tb)) := Lib.hid (by first | exact hk1 | exact (Kept.drew _ _).trans hk1); clear hd1 hk1; go_wp2_with fail
  refine step_post nofun ?_
  refine stage_heads [7] (by kernel_rfl) (L := #[true, true, true, true, true, true, true, true]) (by kernel_rfl) (f' := 0) rfl (fun _ _ _ _ h => h) (fun w o h => ST.alloc h o) (.inl (by kernel_rfl)) ?_
  simp only [List.flatMap_cons, List.flatMap_nil, List.drop_succ_cons, List.drop_zero, List.take_succ_cons, List.take_zero, List.append_nil]
  iterate 1 (refine heads_pure _ (by rfl) (fun w' => by go_simp; try with_reducible rfl) ?_; simp only [Act.put, List.setIfInBounds_toArray, List.set_cons_zero, List.set_cons_succ])
  refine heads_nil ?_
  refine stage_done (by kernel_rfl) ?_
  clear ST
  have HB1 := Lib.hid (HB0.out.kept K01.out NO.out)
  have HS1 : Hid (SRow w1 3 (.slice a0 m0 c0) (D.files.map rfV)) := Lib.hid (HS0.out.kept K01.out (.inr fun b hb h => AP0.out b hb (.inl h)))
  have HK1 := Lib.hid (HK0.out.kept K01.out NB.out)
  have HO1 := Lib.hid (HO0.out.kept K01.out (fun h => by have := HLO.out _ (.inl h); omega))
  have HT1 := Lib.hid (HT00.out.keptIf K01.out (HTA.out.imp id fun h b hb e => h b hb (.inl e)))
  have K1 : Hid (Kept w w1 (fun k => Own3 db mb tb k ∨ k = bo ∨ k = bb)) := Lib.hid (K0.out.trans (K01.out.mono fun _ _ h => .inl h))
  clear HB0 HS0 HK0 HO0 HT00 K0 K01 HD0 HP0
  have ST := Stable.from w1
  go_wp2_with fail
  have GA := G0.out.resize n
  have SA : (resizeD D n).1.steps ≤ D.steps + 4 := by rw [(resizeD_same D n).2.2]; omega
  refine region_start [0, 0, 2, 6, 14, 0, 32, 126, 254, 510, 510, 1023, 3071, 7167, 16383] 0 (fun w' => Below w1.heap.size w1 w') (by kernel_rfl) ?_
  refine stage_heads [0, 1, 2, 3, 4, 5, 6] (by kernel_rfl) (L := #[true, true, true, true, true, true, true, false, false, false, false, false, false, false, false]) (by kernel_rfl) (f' := 8) rfl (fun _ _ _ _ h => h) (fun w o h => ST.alloc h o) (.inr (by first | exact (Below.refl _ _).drew | exact Below.refl _ _)) ?_
  simp only [List.flatMap_cons, List.flatMap_nil, List.drop_succ_cons, List.drop_zero, List.take_succ_cons, List.take_zero, List.cons_append, List.nil_append, List.append_nil]
  iterate 7 (first | (refine heads_load _ (by rfl) (fun w' hs => by obtain ⟨q0, q1, q2, q3, q4, q5, q6, q7, q8, _⟩ := HB1.out.below hs; obtain ⟨x0, x1, x2, x3, x4⟩ := HO1.out.below hs; rw [Nat.zero_add] at x1 x2 x3 x4; go_simp; try with_reducible rfl) rfl ?_; simp only [Act.put, List.setIfInBounds_toArray, List.set_cons_zero, List.set_cons_succ]) | (refine heads_pure _ (by rfl) (fun w' => by go_simp; try with_reducible rfl) ?_; simp only [Act.put, List.setIfInBounds_toArray, List.set_cons_zero, List.set_cons_succ]))
  refine heads_nil ?_
  refine stage_op 7 (by kernel_rfl) (L := #[true, true, true, true, true, true, true, true, false, false, false, false, false, false, false]) (by kernel_rfl) ?_
  simp only [List.drop_succ_cons, List.drop_zero, List.take_succ_cons, List.take_zero]
  go_wp2_with fail; refine (rresize_new _ D n _ (RIs.new HNP.out (HS1.out.below ((Below.refl _ _).drew)))).mono ?_; rintro e w2 ⟨v2, rfl, hr2, hb2, hf2⟩; have I2 : Hid (Below w1.heap.size w1 w2) := Lib.hid (((Below.refl _ _).drew).trans hb2); obtain ⟨r, hr⟩ : ∃ r, resizeD D n = r := ⟨_, rfl⟩; have HR3 := Lib.hid hr; rw [hr] at hr2 HD1 GA SA ⊢; obtain ⟨D3, e3⟩ := r; simp only at hr2 HD1 GA SA ⊢; obtain ⟨a3, c3, rfl, hs2⟩ := hr2; obtain ⟨m3, hm3⟩ : ∃ k, D3.files.length = k := ⟨_, rfl⟩; have HN3 := Lib.hid hm3; rw [hm3] at hs2 hf2 ⊢; have HS2 := Lib.hid hs2; have AP3 : Hid (∀ b, (Value.slice a3 m3 c3).ownBlock = some b → ¬ (Own3 db mb tb b ∨ b = bo ∨ b = bb)) := Lib.hid (fun b hb e => (hf2 b hb).elim (fun h => AP0.out b h e) (fun h => by have h1 := HLO.out b e; have h2 := K1.out.size; have h3 : w1.heap.size ≤ b := h; omega)); clear hr hs2 hf2 hm3 hb2; go_wp2_with fail
  refine step_post nofun ?_
  refine stage_heads [8, 9, 10, 11, 12] (by kernel_rfl) (L := #[true, true, true, true, true, true, true, true, true, true, true, true, true, false, false]) (by kernel_rfl) (f' := 2) rfl (fun _ _ _ _ h => h) (fun w o h => ST.alloc h o) (.inl (by kernel_rfl)) ?_
  simp only [List.flatMap_cons, List.flatMap_nil, List.drop_succ_cons, List.drop_zero, List.take_succ_cons, List.take_zero, List.cons_append, List.nil_append, List.append_nil]
  iterate 5 (refine heads_pure _ (by rfl) (fun w' => by go_simp; try with_reducible rfl) ?_; simp only [Act.put, List.setIfInBounds_toArray, List.set_cons_zero, List.set_cons_succ])
  refine heads_nil ?_
  refine stage_op 13 (by kernel_rfl) (L := #[true, true, true, true, true, true, true, true, true, true, true, true, true, true, false]) (by kernel_rfl) ?_
  simp only [List.drop_succ_cons, List.drop_zero, List.take_succ_cons, List.take_zero]
  have HB2 := Lib.hid (HB1.out.below I2.out); obtain ⟨q0, q1, q2, q3, q4, q5, q6, _, _, fz⟩ := HB2.out; have g2 := fz 2 (by omega) (by omega); have g3 := fz 3 (by omega) (by omega); have g4 := fz 4 (by omega) (by omega); have g5 := fz 5 (by omega) (by omega); have g6 := fz 6 (by omega) (by omega); go_wp2_with fail
  refine step_post nofun ?_
  refine stage_heads [14] (by kernel_rfl) (L := #[true, true, true, true, true, true, true, true, true, true, true, true, true, true, true]) (by kernel_rfl) (f' := 0) rfl (fun _ _ _ _ h => h) (fun w o h => ST.alloc h o) (.inl (by kernel_rfl)) ?_
  simp only [List.flatMap_cons, List.flatMap_nil, List.drop_succ_cons, List.drop_zero, List.take_succ_cons, List.take_zero, List.append_nil]
  iterate 1 (refine heads_pure _ (by rfl) (fun w' => by go_simp; try with_reducible rfl) ?_; simp only [Act.put, List.setIfInBounds_toArray, List.set_cons_zero, List.set_cons_succ])
  refine heads_nil ?_
  refine stage_done (by kernel_rfl) ?_
  clear q0 q1 q2 q3 q4 q5 q6 g2 g3 g4 g5 g6 fz
  have HB3a := HB2.out.setD D3 (.slice a3 m3 c3)
  have HD3a := (HD1.out.below I2.out).setPair HB2.out.bo NO.out D3 (.slice a3 m3 c3)
  have HS3a := HS2.out.setPair HB2.out.bo D3 (.slice a3 m3 c3)
  have KB := Kept.setBO w2 bo D3 (.slice a3 m3 c3)
  have HK3a := (HK1.out.below I2.out).kept KB NBO.out
  have HO3a := (HO1.out.below I2.out).kept KB (fun h => by have := HLO.out bo (.inr (.inl rfl)); omega)
  have HT3a := (HT1.out.below I2.out).keptIf KB (HTA.out.imp id fun h b hb e => h b hb (.inr (.inl e)))
  have K3a := (K1.out.trans (Kept.of_below I2.out (fun k h1 h2 => by omega))).trans (KB.mono fun k _ h => .inr (.inl h))
  unfold setBO at HB3a HD3a HS3a HK3a HO3a HT3a K3a
  generalize World.setCell _ _ _ = w3 at *
  have HB3 := Lib.hid HB3a
  have HD3 := Lib.hid HD3a
  have HS3 := Lib.hid HS3a
  have HK3 := Lib.hid HK3a
  have HO3 := Lib.hid HO3a
  have HT3 := Lib.hid HT3a
  have K3 : Hid (Kept w w3 (fun k => Own3 db mb tb k ∨ k = bo ∨ k = bb)) := Lib.hid K3a
  have G3 := Lib.hid GA
  have ZS3 := Lib.hid SA
  clear KB HB3a HD3a HS3a HK3a HO3a HT3a K3a GA SA HB1 HD1 HS1 HK1 HO1 HT1 K1 HS2 HB2 ST
  obtain ⟨t3, ht3⟩ : ∃ x, t = x := ⟨_, rfl⟩
  obtain ⟨v3, hv3⟩ : ∃ x, v = x := ⟨_, rfl⟩
  rw [ht3, hv3] at HB3 HK3
  clear ht3 hv3
  obtain ⟨dn, hdd⟩ : ∃ x, D3.down = x := ⟨_, rfl⟩
  have HDD := Lib.hid hdd
  clear hdd
  have e1 : ((e3 : Int) != (e3 : Int)) = false := bne_self_eq_false _
  have e2 : (dn != dn) = false := bne_self_eq_false _
  have ST := Stable.from w3
  go_wp2_with fail
  refine region_start [0, 0, 3, 7, 15, 31, 63, 127, 255, 15, 527, 1551, 3599, 7695, 16383, 32767] 256 (fun w' => Below w3.heap.size w3 w') (by kernel_rfl) ?_
  refine stage_heads [0, 1, 2, 3, 4, 5, 6, 7, 9, 10, 11, 12, 13] (by kernel_rfl) (L := #[true, true, true, true, true, true, true, true, false, true, true, true, true, true, false, false]) (by kernel_rfl) (f' := 3) rfl (fun _ _ _ _ h => h) (fun w o h => ST.alloc h o) (.inr (by first | exact (Below.refl _ _).drew | exact Below.refl _ _)) ?_
  simp only [List.flatMap_cons, List.flatMap_nil, List.drop_succ_cons, List.drop_zero, List.take_succ_cons, List.take_zero, List.cons_append, List.nil_append, List.append_nil]
  iterate 13 (first | (refine heads_load _ (by rfl) (fun w' hs => by obtain ⟨q0, q1, q2, q3, q4, q5, q6, q7, q8, _⟩ := HB3.out.below hs; rw [HDD.out] at q4; go_simp; try with_reducible rfl) rfl ?_; simp only [Act.put, List.setIfInBounds_toArray, List.set_cons_zero, List.set_cons_succ]) | (refine heads_pure _ (by rfl) (fun w' => by go_simp; try with_reducible rfl) ?_; simp only [Act.put, List.setIfInBounds_toArray, List.set_cons_zero, List.set_cons_succ]) | (refine heads_skip (by rfl) ?_; simp only [Act.put, List.setIfInBounds_toArray, List.set_cons_zero, List.set_cons_succ]))
  refine heads_nil ?_
  refine stage_op 8 (by kernel_rfl) (L := #[true, true, true, true, true, true, true, true, true, true, true, true, true, true, false, false]) (by kernel_rfl) ?_
  simp only [List.drop_succ_cons, List.drop_zero, List.take_succ_cons, List.take_zero]
  go_wp2_with fail; refine (ddown_any db mb tb D3 _ (by first | exact HD3.out.below ((Below.refl _ _).drew) | exact HD3.out)).mono ?_; rintro e w4 ⟨rfl, rfl⟩; rw [HDD.out]; go_wp2_with fail
  refine step_post (fun _ => (Below.refl _ _).drew) ?_
  refine stage_heads [14, 15] (by kernel_rfl) (L := #[true, true, true, true, true, true, true, true, true, true, true, true, true, true, true, true]) (by kernel_rfl) (f' := 0) rfl (fun _ _ _ _ h => h) (fun w o h => ST.alloc h o) (.inl (by kernel_rfl)) ?_
  simp only [List.flatMap_cons, List.flatMap_nil, List.drop_succ_cons, List.drop_zero, List.take_succ_cons, List.take_zero, List.cons_append, List.nil_append, List.append_nil]
  iterate 2 (first | (refine heads_pure _ (by rfl) (fun w' => by go_simp; try with_reducible rfl) ?_; simp only [Act.put, List.setIfInBounds_toArray, List.set_cons_zero, List.set_cons_succ]) | (refine heads_skip (by rfl) ?_; simp only [Act.put, List.setIfInBounds_toArray, List.set_cons_zero, List.set_cons_succ]))
  refine heads_nil ?_
  refine stage_done (by kernel_rfl) ?_
  have BD : Below w3.heap.size w3 w3.drew := (Below.refl _ _).drew
  have HD5 := Lib.hid (HD3.out.below BD)
  have HB5 := Lib.hid (HB3.out.below BD)
  have HS5 := Lib.hid (HS3.out.below BD)
  have HK5 := Lib.hid (HK3.out.below BD)
  have HO5 := Lib.hid (HO3.out.below BD)
  have HT5 := Lib.hid (HT3.out.below BD)
  have K5 : Hid (Kept w w3.drew (fun k => Own3 db mb tb k ∨ k = bo ∨ k = bb)) := Lib.hid (K3.out.trans (Kept.drew _ _))
  clear BD ST HD3 HB3 HS3 HK3 HO3 HT3 K3
  generalize w3.drew = w5 at *
  obtain ⟨q0, q1, q2, q3, q4, q5, q6, q7, q8, _⟩ := HB5.out
  rw [HDD.out] at q4
  cases dn
  · have HUP : Hid (D3.down = false) := HDD
    go_wp2_with fail
    go_ret
    exact ⟨rfl, bb, D3, t3, v3, ⟨HD5.out, G3.out, ⟨a3, m3, c3, HN3.out, HB5.out, HS5.out, fun b hb => ⟨fun h => AP3.out b hb (.inl h), fun h => AP3.out b hb (.inr (.inl h)), fun q hq e => AP3.out b hb (.inr (.inr (by obtain rfl := Option.some.inj hq; exact e.symm)))⟩⟩, NO.out⟩, HK5.out, NB.out, NBO.out, .inl rfl, HUP.out, by have := ZS3.out; omega, K5.out⟩
  · obtain ⟨x0, x1, x2, x3, x4⟩ := HO5.out
    go_wp2_with fail
    refine (vreopen_any bo db mb tb (some ⟨bb, 0, none⟩) D3 t3 v3 _ ts w5 ⟨HD5.out, G3.out, ⟨a3, m3, c3, HN3.out, HB5.out, HS5.out, fun b hb => ⟨fun h => AP3.out b hb (.inl h), fun h => AP3.out b hb (.inr (.inl h)), fun q hq e => AP3.out b hb (.inr (.inr (by obtain rfl := Option.some.inj hq; exact e.symm)))⟩⟩, NO.out⟩ HT5.out HTM.out (HTA.out.imp id (fun h b hb e => h b hb (.inl e))) (by have := ZS3.out; have := HST.out; omega)).mono ?_
    rintro e w6 ⟨rfl, bc, hp6, hk6, hbc, hnc, hco, hK6⟩
    have PP := Lib.hid (And.intro hp6 (And.intro hk6 (And.intro hnc hco)))
    have BC : Hid (w.heap.size ≤ bc) := Lib.hid (Nat.le_trans K5.out.size hbc)
    have K6 : Hid (Kept w w6 (fun k => Own3 db mb tb k ∨ k = bo ∨ k = bb)) := Lib.hid (K5.out.trans (hK6.mono fun k _ h => h.imp id .inl))
    have HCA : Hid ((reD D3 ts).down = false) := Lib.hid (open_calmD (calm_boot _)).1
    have HSR := Lib.hid (reD_good G3.out ts (by have := ZS3.out; have := HST.out; omega)).2
    clear hp6 hk6 hbc hnc hco hK6 x0 x1 x2 x3 x4
    go_wp2_with fail
    go_ret
    exact ⟨rfl, bc, reD D3 ts, _, _, PP.out.1, PP.out.2.1, PP.out.2.2.1, PP.out.2.2.2, .inr BC.out, HCA.out, by have h1 := HSR.out; have h2 := ZS3.out; omega, K6.out⟩
set_option maxHeartbeats 4000000 in
set_option maxRecDepth 20000 in
theorem vdo_keep (bo db mb tb bb : Nat) (D : DiskS) (t v : Int) (k n rt rv : Int) (ta : Option Addr) (tn tc : Nat) (ts : List (Nat × Nat)) (w : World) (h : PairIs w bo db mb tb (some ⟨bb, 0, none⟩) D t v) (hk : BookIs w bb db t v) (hnb : ¬ Own3 db mb tb bb) (hbo : bb ≠ bo) (hdn : D.down = false) (hT : TearsIs w (.slice ta tn tc) ts) (htn : ts.length = tn) (htm : ts.length ≤ 1000) (hta : ts = [] ∨ ∀ b, (Value.slice ta tn tc).ownBlock = some b → ¬ (Own3 db mb tb b ∨ b = bo ∨ b = bb)) (hn0 : n ≤ 9223372036854775807) (ht0 : 0 ≤ rt) (hst : D.steps + 7 ≤ 1000000000) (hk1 : k ≠ 1 ∧ k ≠ 2 ∧ k ≠ 3) :
    Calls Tryz.prog 24 #[.pointer (some ⟨bo, 0, none⟩), .agg #[.int .i64 k, .int .i64 n, .int .u64 rt, .int .i64 rv, .slice ta tn tc]] w (DoPost bo db mb tb bb D w) := by
  have LO : ∀ k, (Own3 db mb tb k ∨ k = bo ∨ k = bb) → k < w.heap.size := by
    obtain ⟨a, m, c, _, hb, _, _⟩ := h.sl
    rintro k (h1 | rfl | rfl)
    · exact h.disk.lt3 k h1
    · exact hb.lt
    · exact hk.lt
  have HLO := Lib.hid LO
  have NB := Lib.hid hnb
  have NBO := Lib.hid hbo
  have HDN := Lib.hid hdn
  have HTA := Lib.hid hta
  have HTM := Lib.hid htm
  have HTN := Lib.hid htn
  have HN0 := Lib.hid hn0
  have HT0 := Lib.hid ht0
  have HST := Lib.hid hst
  have AX : Below w.heap.size w (w.alloc (.cells #[.int .i64 k, .int .i64 n, .int .u64 rt, .int .i64 rv, .slice ta tn tc] 66)) := (Below.refl _ _).alloc (Nat.le_refl _) _
  have HPX := h.below AX
  have HKX := hk.below AX
  have HTX := hT.below AX
  have HOY : OC (w.alloc (.cells #[.int .i64 k, .int .i64 n, .int .u64 rt, .int .i64 rv, .slice ta tn tc] 66)) w.heap.size 0 (⟨k, n, rt, rv, .slice ta tn tc, ts⟩ : VOp) := OC.box w (⟨k, n, rt, rv, .slice ta tn tc, ts⟩ : VOp)
  clear h hk hnb hbo hdn hT htm htn hta hn0 ht0 hst LO
  go_enter Tryz.func24, Tryz.ntmps24
  have k1 : (k == 1) = false := beq_eq_false_iff_ne.2 hk1.1
  have k2 : (k == 2) = false := beq_eq_false_iff_ne.2 hk1.2.1
  have k3 : (k == 3) = false := beq_eq_false_iff_ne.2 hk1.2.2
  have HOZ := Lib.hid HOY
  obtain ⟨x0, x1, x2, x3, x4⟩ := HOY
  rw [Nat.zero_add] at x1 x2 x3 x4
  go_wp2_with fail
  clear x0 x1 x2 x3 x4
  generalize World.alloc w _ = w0 at *
  have HP0 := Lib.hid HPX
  have HK0 := Lib.hid HKX
  have HT00 := Lib.hid HTX
  have HO0 := HOZ
  have K0 : Hid (Kept w w0 (fun k => Own3 db mb tb k ∨ k = bo ∨ k = bb)) := Lib.hid (Kept.of_below AX (fun k h1 h2 => by omega))
  have Z0 : Hid (w.heap.size < w0.heap.size) := Lib.hid (World.block_lt_of_cell? _ _ HOZ.out.c0)
  clear AX HPX HKX HTX
  obtain ⟨hd, hg, ⟨a0, m0, c0, hn, hb, hs, hap⟩, hno⟩ := HP0.out
  have HD0 := Lib.hid hd
  have G0 := Lib.hid hg
  have HNP := Lib.hid hn
  have HB0 := Lib.hid hb
  have HS0 := Lib.hid hs
  have AP0 : Hid (∀ b, (Value.slice a0 m0 c0).ownBlock = some b → ¬ (Own3 db mb tb b ∨ b = bo ∨ b = bb)) := Lib.hid (fun b h e => by
    obtain ⟨h1, h2, h3⟩ := hap b h
    rcases e with e | e | e
    · exact h1 e
    · exact h2 e
    · exact h3 _ rfl e.symm)
  have NO := Lib.hid hno
  clear hd hg hn hb hs hap hno
  have ST := Stable.from w0
  refine region_start [0, 1, 3, 7, 0, 16, 63, 127] 0 (fun w' => Below w0.heap.size w0 w') (by kernel_rfl) ?_
  refine stage_heads [0, 1, 2, 3, 4, 5] (by kernel_rfl) (L := #[true, true, true, true, true, true, false, false]) (by kernel_rfl) (f' := 2) rfl (fun _ _ _ _ h => h) (fun w o h => ST.alloc h o) (.inr (by first | exact (Below.refl _ _).drew | exact Below.refl _ _)) ?_
  simp only [List.flatMap_cons, List.flatMap_nil, List.drop_succ_cons, List.drop_zero, List.take_succ_cons, List.take_zero, List.cons_append, List.nil_append, List.append_nil]
  iterate 6 (first | (refine heads_load _ (by rfl) (fun w' hs => by obtain ⟨q0, q1, _⟩ := HB0.out.below hs; obtain ⟨x0, x1, x2, x3, x4⟩ := HO0.out.below hs; rw [Nat.zero_add] at x1 x2 x3 x4; go_simp; try with_reducible rfl) rfl ?_; simp only [Act.put, List.setIfInBounds_toArray, List.set_cons_zero, List.set_cons_succ]) | (refine heads_pure _ (by rfl) (fun w' => by go_simp; try with_reducible rfl) ?_; simp only [Act.put, List.setIfInBounds_toArray, List.set_cons_zero, List.set_cons_succ]))
  refine heads_nil ?_
  refine stage_op 6 (by kernel_rfl) (L := #[true, true, true, true, true, true, true, false]) (by kernel_rfl) ?_
  simp only [List.drop_succ_cons, List.drop_zero, List.take_succ_cons, List.take_zero]
  go_wp2_with fail; refine (vkeep_any bb db mb tb D t v rt rv _ (HD0.out.below ((Below.refl _ _).drew)) G0.out (by have := HST.out; omega) (HK0.out.below ((Below.refl _ _).drew)) NB.out HT0.out).mono ?_; rintro e w1 ⟨rfl, hd1, hbk1, hk1⟩; have HD1 := Lib.hid hd1; have HK1 := Lib.hid hbk1; have K01 : Hid (Kept w0 w1 (fun k => Own3 db mb tb k ∨ k = bb)) := Lib.hid ((Kept.drew _ _).trans hk1); clear hd1 hbk1 hk1; go_wp2_with fail
  refine step_post nofun ?_
  refine stage_heads [7] (by kernel_rfl) (L := #[true, true, true, true, true, true, true, true]) (by kernel_rfl) (f' := 0) rfl (fun _ _ _ _ h => h) (fun w o h => ST.alloc h o) (.inl (by kernel_rfl)) ?_
  simp only [List.flatMap_cons, List.flatMap_nil, List.drop_succ_cons, List.drop_zero, List.take_succ_cons, List.take_zero, List.append_nil]
  iterate 1 (refine heads_pure _ (by rfl) (fun w' => by go_simp; try with_reducible rfl) ?_; simp only [Act.put, List.setIfInBounds_toArray, List.set_cons_zero, List.set_cons_succ])
  refine heads_nil ?_
  refine stage_done (by kernel_rfl) ?_
  clear ST
  have HB1 := Lib.hid (HB0.out.kept K01.out (fun h => h.elim NO.out (fun e => NBO.out e.symm)))
  have HS1 : Hid (SRow w1 3 (.slice a0 m0 c0) (D.files.map rfV)) := Lib.hid (HS0.out.kept K01.out (.inr fun b hb h => AP0.out b hb (h.imp id .inr)))
  have HO1 := Lib.hid (HO0.out.kept K01.out (fun h => by have := HLO.out _ (h.imp id .inr); omega))
  have HT1 := Lib.hid (HT00.out.keptIf K01.out (HTA.out.imp id fun h b hb e => h b hb (e.imp id .inr)))
  have K1 : Hid (Kept w w1 (fun k => Own3 db mb tb k ∨ k = bo ∨ k = bb)) := Lib.hid (K0.out.trans (K01.out.mono fun _ _ h => h.imp id .inr))
  have GA := keepD_good t v rt rv G0.out (by have := HST.out; omega)
  obtain ⟨R, hR⟩ : ∃ R, keepD D t v rt rv = R := ⟨_, rfl⟩
  have HRR := Lib.hid hR
  rw [hR] at HD1 HK1 GA ⊢
  obtain ⟨D3, e3⟩ := R
  simp only at HD1 HK1 GA ⊢
  obtain ⟨t3, ht3⟩ : ∃ x, (if e3 = 0 then rt else t) = x := ⟨_, rfl⟩
  obtain ⟨v3, hv3⟩ : ∃ x, (if e3 = 0 then rv else v) = x := ⟨_, rfl⟩
  rw [ht3, hv3] at HK1
  have HTT := Lib.hid ht3
  have HVV := Lib.hid hv3
  clear HB0 HS0 HK0 HO0 HT00 K0 K01 HD0 HP0 hR ht3 hv3
  have G3 := Lib.hid GA.1
  have ZS3 := Lib.hid GA.2
  clear GA
  have ST := Stable.from w1
  go_wp2_with fail
  refine region_start [0, 0, 0, 4, 12, 28, 0, 64, 192, 448, 0, 1024, 4092, 8188, 16380, 16380, 16380, 32765, 163837, 425981, 983039, 2031615, 4128767, 8388607] 0 (fun w' => Below w1.heap.size w1 w') (by kernel_rfl) ?_
  refine stage_heads [0, 1, 2, 3, 4, 5, 6, 7, 8, 9, 10, 11] (by kernel_rfl) (L := #[true, true, true, true, true, true, true, true, true, true, true, true, false, false, false, false, false, false, false, false, false, false, false, false]) (by kernel_rfl) (f' := 12) rfl (fun _ _ _ _ h => h) (fun w o h => ST.alloc h o) (.inr (by first | exact (Below.refl _ _).drew | exact Below.refl _ _)) ?_
  simp only [List.flatMap_cons, List.flatMap_nil, List.drop_succ_cons, List.drop_zero, List.take_succ_cons, List.take_zero, List.cons_append, List.nil_append, List.append_nil]
  iterate 12 (first | (refine heads_load _ (by rfl) (fun w' hs => by obtain ⟨q0, q1, q2, q3, q4, q5, q6, q7, q8, _⟩ := HB1.out.below hs; obtain ⟨x0, x1, x2, x3, x4⟩ := HO1.out.below hs; rw [Nat.zero_add] at x1 x2 x3 x4; go_simp; try with_reducible rfl) rfl ?_; simp only [Act.put, List.setIfInBounds_toArray, List.set_cons_zero, List.set_cons_succ]) | (refine heads_pure _ (by rfl) (fun w' => by go_simp; try with_reducible rfl) ?_; simp only [Act.put, List.setIfInBounds_toArray, List.set_cons_zero, List.set_cons_succ]))
  refine heads_nil ?_
  refine stage_op 12 (by kernel_rfl) (L := #[true, true, true, true, true, true, true, true, true, true, true, true, true, false, false, false, false, false, false, false, false, false, false, false]) (by kernel_rfl) ?_
  simp only [List.drop_succ_cons, List.drop_zero, List.take_succ_cons, List.take_zero]
  go_wp2_with fail; refine (rkeep_any _ D t v rt rv _ (RIs.new HNP.out (HS1.out.below ((Below.refl _ _).drew))) G0.out HT0.out (by have := HST.out; omega)).mono ?_; rw [HRR.out]; rintro e w2 ⟨v2, rfl, hr2, hb2, hf2⟩; have I2 : Hid (Below w1.heap.size w1 w2) := Lib.hid (((Below.refl _ _).drew).trans hb2); simp only at hr2 ⊢; rw [HTT.out, HVV.out]; obtain ⟨a3, c3, rfl, hs2⟩ := hr2; obtain ⟨m3, hm3⟩ : ∃ k, D3.files.length = k := ⟨_, rfl⟩; have HN3 := Lib.hid hm3; rw [hm3] at hs2 hf2 ⊢; have HS2 := Lib.hid hs2; have AP3 : Hid (∀ b, (Value.slice a3 m3 c3).ownBlock = some b → ¬ (Own3 db mb tb b ∨ b = bo ∨ b = bb)) := Lib.hid (fun b hb e => (hf2 b hb).elim (fun h => AP0.out b h e) (fun h => by have h1 := HLO.out b e; have h2 := K1.out.size; have h3 : w1.heap.size ≤ b := h; omega)); clear hs2 hf2 hm3 hb2; go_wp2_with fail
  refine step_post nofun ?_
  refine stage_heads [13, 14, 15, 16, 17, 18] (by kernel_rfl) (L := #[true, true, true, true, true, true, true, true, true, true, true, true, true, true, true, true, true, true, true, false, false, false, false, false]) (by kernel_rfl) (f' := 5) rfl (fun _ _ _ _ h => h) (fun w o h => ST.alloc h o) (.inl (by kernel_rfl)) ?_
  simp only [List.flatMap_cons, List.flatMap_nil, List.drop_succ_cons, List.drop_zero, List.take_succ_cons, List.take_zero, List.cons_append, List.nil_append, List.append_nil]
  iterate 6 (refine heads_pure _ (by rfl) (fun w' => by go_simp; try with_reducible rfl) ?_; simp only [Act.put, List.setIfInBounds_toArray, List.set_cons_zero, List.set_cons_succ])
  refine heads_nil ?_
  refine stage_op 19 (by kernel_rfl) (L := #[true, true, true, true, true, true, true, true, true, true, true, true, true, true, true, true, true, true, true, true, false, false, false, false]) (by kernel_rfl) ?_
  simp only [List.drop_succ_cons, List.drop_zero, List.take_succ_cons, List.take_zero]
  have HB2 := Lib.hid (HB1.out.below I2.out); obtain ⟨q0, q1, q2, q3, q4, q5, q6, q7, q8, fz⟩ := HB2.out; have g2 := fz 2 (by omega) (by omega); have g3 := fz 3 (by omega) (by omega); have g4 := fz 4 (by omega) (by omega); have g5 := fz 5 (by omega) (by omega); have g6 := fz 6 (by omega) (by omega); have g7 := fz 7 (by omega) (by omega); have g8 := fz 8 (by omega) (by omega); go_wp2_with fail
  refine step_post nofun ?_
  refine stage_heads [20, 21] (by kernel_rfl) (L := #[true, true, true, true, true, true, true, true, true, true, true, true, true, true, true, true, true, true, true, true, true, true, false, false]) (by kernel_rfl) (f' := 2) rfl (fun _ _ _ _ h => h) (fun w o h => ST.alloc h o) (.inl (by kernel_rfl)) ?_
  simp only [List.flatMap_cons, List.flatMap_nil, List.drop_succ_cons, List.drop_zero, List.take_succ_cons, List.take_zero, List.cons_append, List.nil_append, List.append_nil]
  iterate 2 (refine heads_pure _ (by rfl) (fun w' => by go_simp; try with_reducible rfl) ?_; simp only [Act.put, List.setIfInBounds_toArray, List.set_cons_zero, List.set_cons_succ])
  refine heads_nil ?_
  refine stage_op 22 (by kernel_rfl) (L := #[true, true, true, true, true, true, true, true, true, true, true, true, true, true, true, true, true, true, true, true, true, true, true, false]) (by kernel_rfl) ?_
  simp only [List.drop_succ_cons, List.drop_zero, List.take_succ_cons, List.take_zero]
  go_wp2_with fail
  refine step_post nofun ?_
  refine stage_heads [23] (by kernel_rfl) (L := #[true, true, true, true, true, true, true, true, true, true, true, true, true, true, true, true, true, true, true, true, true, true, true, true]) (by kernel_rfl) (f' := 0) rfl (fun _ _ _ _ h => h) (fun w o h => ST.alloc h o) (.inl (by kernel_rfl)) ?_
  simp only [List.flatMap_cons, List.flatMap_nil, List.drop_succ_cons, List.drop_zero, List.take_succ_cons, List.take_zero, List.append_nil]
  iterate 1 (refine heads_pure _ (by rfl) (fun w' => by go_simp; try with_reducible rfl) ?_; simp only [Act.put, List.setIfInBounds_toArray, List.set_cons_zero, List.set_cons_succ])
  refine heads_nil ?_
  refine stage_done (by kernel_rfl) ?_
  clear q0 q1 q2 q3 q4 q5 q6 q7 q8 g2 g3 g4 g5 g6 g7 g8 fz
  have HB3a := (HB2.out.setD D3 (.slice a3 m3 c3)).setS t3 v3
  have HD3a := ((HD1.out.below I2.out).setPair HB2.out.bo NO.out D3 (.slice a3 m3 c3)).setS (HB2.out.setD D3 (.slice a3 m3 c3)) NO.out (.int .u64 t3) (.int .i64 v3)
  have KB := ((Kept.setBO w2 bo D3 (.slice a3 m3 c3)).trans (Kept.setCell _ ⟨bo, 7, none⟩ (.int .u64 t3))).trans (Kept.setCell _ ⟨bo, 8, none⟩ (.int .i64 v3))
  have HS3a := HS2.out.kept KB (.inr fun b hb h => AP3.out b hb (.inr (.inl h)))
  have HK3a := (HK1.out.below I2.out).kept KB NBO.out
  have HO3a := (HO1.out.below I2.out).kept KB (fun h => by have := HLO.out bo (.inr (.inl rfl)); omega)
  have HT3a := (HT1.out.below I2.out).keptIf KB (HTA.out.imp id fun h b hb e => h b hb (.inr (.inl e)))
  have K3a := (K1.out.trans (Kept.of_below I2.out (fun k h1 h2 => by omega))).trans (KB.mono fun k _ h => .inr (.inl h))
  unfold setBO at HB3a HD3a HS3a HK3a HO3a HT3a K3a
  generalize World.setCell _ _ _ = w3 at *
  have HB3 := Lib.hid HB3a
  have HD3 := Lib.hid HD3a
  have HS3 := Lib.hid HS3a
  have HK3 := Lib.hid HK3a
  have HO3 := Lib.hid HO3a
  have HT3 := Lib.hid HT3a
  have K3 : Hid (Kept w w3 (fun k => Own3 db mb tb k ∨ k = bo ∨ k = bb)) := Lib.hid K3a
  clear KB HB3a HD3a HS3a HK3a HO3a HT3a K3a HB1 HD1 HS1 HK1 HO1 HT1 K1 HS2 HB2 ST HTT HVV
  obtain ⟨dn, hdd⟩ : ∃ x, D3.down = x := ⟨_, rfl⟩
  have HDD := Lib.hid hdd
  clear hdd
  have e1 : ((e3 : Int) != (e3 : Int)) = false := bne_self_eq_false _
  have e2 : (dn != dn) = false := bne_self_eq_false _
  have ST := Stable.from w3
  go_wp2_with fail
  refine region_start [0, 0, 3, 7, 15, 31, 63, 127, 255, 15, 527, 1551, 3599, 7695, 16383, 32767] 256 (fun w' => Below w3.heap.size w3 w') (by kernel_rfl) ?_
  refine stage_heads [0, 1, 2, 3, 4, 5, 6, 7, 9, 10, 11, 12, 13] (by kernel_rfl) (L := #[true, true, true, true, true, true, true, true, false, true, true, true, true, true, false, false]) (by kernel_rfl) (f' := 3) rfl (fun _ _ _ _ h => h) (fun w o h => ST.alloc h o) (.inr (by first | exact (Below.refl _ _).drew | exact Below.refl _ _)) ?_
  simp only [List.flatMap_cons, List.flatMap_nil, List.drop_succ_cons, List.drop_zero, List.take_succ_cons, List.take_zero, List.cons_append, List.nil_append, List.append_nil]
  iterate 13 (first | (refine heads_load _ (by rfl) (fun w' hs => by obtain ⟨q0, q1, q2, q3, q4, q5, q6, q7, q8, _⟩ := HB3.out.below hs; rw [HDD.out] at q4; go_simp; try with_reducible rfl) rfl ?_; simp only [Act.put, List.setIfInBounds_toArray, List.set_cons_zero, List.set_cons_succ]) | (refine heads_pure _ (by rfl) (fun w' => by go_simp; try with_reducible rfl) ?_; simp only [Act.put, List.setIfInBounds_toArray, List.set_cons_zero, List.set_cons_succ]) | (refine heads_skip (by rfl) ?_; simp only [Act.put, List.setIfInBounds_toArray, List.set_cons_zero, List.set_cons_succ]))
  refine heads_nil ?_
  refine stage_op 8 (by kernel_rfl) (L := #[true, true, true, true, true, true, true, true, true, true, true, true, true, true, false, false]) (by kernel_rfl) ?_
  simp only [List.drop_succ_cons, List.drop_zero, List.take_succ_cons, List.take_zero]
  go_wp2_with fail; refine (ddown_any db mb tb D3 _ (by first | exact HD3.out.below ((Below.refl _ _).drew) | exact HD3.out)).mono ?_; rintro e w4 ⟨rfl, rfl⟩; rw [HDD.out]; go_wp2_with fail
  refine step_post (fun _ => (Below.refl _ _).drew) ?_
  refine stage_heads [14, 15] (by kernel_rfl) (L := #[true, true, true, true, true, true, true, true, true, true, true, true, true, true, true, true]) (by kernel_rfl) (f' := 0) rfl (fun _ _ _ _ h => h) (fun w o h => ST.alloc h o) (.inl (by kernel_rfl)) ?_
  simp only [List.flatMap_cons, List.flatMap_nil, List.drop_succ_cons, List.drop_zero, List.take_succ_cons, List.take_zero, List.cons_append, List.nil_append, List.append_nil]
  iterate 2 (first | (refine heads_pure _ (by rfl) (fun w' => by go_simp; try with_reducible rfl) ?_; simp only [Act.put, List.setIfInBounds_toArray, List.set_cons_zero, List.set_cons_succ]) | (refine heads_skip (by rfl) ?_; simp only [Act.put, List.setIfInBounds_toArray, List.set_cons_zero, List.set_cons_succ]))
  refine heads_nil ?_
  refine stage_done (by kernel_rfl) ?_
  have BD : Below w3.heap.size w3 w3.drew := (Below.refl _ _).drew
  have HD5 := Lib.hid (HD3.out.below BD)
  have HB5 := Lib.hid (HB3.out.below BD)
  have HS5 := Lib.hid (HS3.out.below BD)
  have HK5 := Lib.hid (HK3.out.below BD)
  have HO5 := Lib.hid (HO3.out.below BD)
  have HT5 := Lib.hid (HT3.out.below BD)
  have K5 : Hid (Kept w w3.drew (fun k => Own3 db mb tb k ∨ k = bo ∨ k = bb)) := Lib.hid (K3.out.trans (Kept.drew _ _))
  clear BD ST HD3 HB3 HS3 HK3 HO3 HT3 K3
  generalize w3.drew = w5 at *
  obtain ⟨q0, q1, q2, q3, q4, q5, q6, q7, q8, _⟩ := HB5.out
  rw [HDD.out] at q4
  cases dn
  · have HUP : Hid (D3.down = false) := HDD
    go_wp2_with fail
    go_ret
    exact ⟨rfl, bb, D3, t3, v3, ⟨HD5.out, G3.out, ⟨a3, m3, c3, HN3.out, HB5.out, HS5.out, fun b hb => ⟨fun h => AP3.out b hb (.inl h), fun h => AP3.out b hb (.inr (.inl h)), fun q hq e => AP3.out b hb (.inr (.inr (by obtain rfl := Option.some.inj hq; exact e.symm)))⟩⟩, NO.out⟩, HK5.out, NB.out, NBO.out, .inl rfl, HUP.out, by have := ZS3.out; omega, K5.out⟩
  · obtain ⟨x0, x1, x2, x3, x4⟩ := HO5.out
    go_wp2_with fail
    refine (vreopen_any bo db mb tb (some ⟨bb, 0, none⟩) D3 t3 v3 _ ts w5 ⟨HD5.out, G3.out, ⟨a3, m3, c3, HN3.out, HB5.out, HS5.out, fun b hb => ⟨fun h => AP3.out b hb (.inl h), fun h => AP3.out b hb (.inr (.inl h)), fun q hq e => AP3.out b hb (.inr (.inr (by obtain rfl := Option.some.inj hq; exact e.symm)))⟩⟩, NO.out⟩ HT5.out HTM.out (HTA.out.imp id (fun h b hb e => h b hb (.inl e))) (by have := ZS3.out; have := HST.out; omega)).mono ?_
    rintro e w6 ⟨rfl, bc, hp6, hk6, hbc, hnc, hco, hK6⟩
    have PP := Lib.hid (And.intro hp6 (And.intro hk6 (And.intro hnc hco)))
    have BC : Hid (w.heap.size ≤ bc) := Lib.hid (Nat.le_trans K5.out.size hbc)
    have K6 : Hid (Kept w w6 (fun k => Own3 db mb tb k ∨ k = bo ∨ k = bb)) := Lib.hid (K5.out.trans (hK6.mono fun k _ h => h.imp id .inl))
    have HCA : Hid ((reD D3 ts).down = false) := Lib.hid (open_calmD (calm_boot _)).1
    have HSR := Lib.hid (reD_good G3.out ts (by have := ZS3.out; have := HST.out; omega)).2
    clear hp6 hk6 hbc hnc hco hK6 x0 x1 x2 x3 x4
    go_wp2_with fail
    go_ret
    exact ⟨rfl, bc, reD D3 ts, _, _, PP.out.1, PP.out.2.1, PP.out.2.2.1, PP.out.2.2.2, .inr BC.out, HCA.out, by have h1 := HSR.out; have h2 := ZS3.out; omega, K6.out⟩
theorem vdo_any (bo db mb tb bb : Nat) (D : DiskS) (t v : Int) (k n rt rv : Int) (ta : Option Addr) (tn tc : Nat) (ts : List (Nat × Nat)) (w : World) (h : PairIs w bo db mb tb (some ⟨bb, 0, none⟩) D t v) (hk : BookIs w bb db t v) (hnb : ¬ Own3 db mb tb bb) (hbo : bb ≠ bo) (hdn : D.down = false) (hT : TearsIs w (.slice ta tn tc) ts) (htn : ts.length = tn) (htm : ts.length ≤ 1000) (hta : ts = [] ∨ ∀ b, (Value.slice ta tn tc).ownBlock = some b → ¬ (Own3 db mb tb b ∨ b = bo ∨ b = bb)) (hn0 : n ≤ 9223372036854775807) (ht0 : 0 ≤ rt) (hst : D.steps + 7 ≤ 1000000000) :
    Calls Tryz.prog 24 #[.pointer (some ⟨bo, 0, none⟩), .agg #[.int .i64 k, .int .i64 n, .int .u64 rt, .int .i64 rv, .slice ta tn tc]] w (DoPost bo db mb tb bb D w) := by
  by_cases h1 : k = 1
  · exact vdo_crash bo db mb tb bb D t v k n rt rv ta tn tc ts w h hk hnb hbo hdn hT htn htm hta hn0 ht0 hst h1
  · by_cases h2 : k = 2
    · exact vdo_arm bo db mb tb bb D t v k n rt rv ta tn tc ts w h hk hnb hbo hdn hT htn htm hta hn0 ht0 hst h2
    · by_cases h3 : k = 3
      · exact vdo_resize bo db mb tb bb D t v k n rt rv ta tn tc ts w h hk hnb hbo hdn hT htn htm hta hn0 ht0 hst h3
      · exact vdo_keep bo db mb tb bb D t v k n rt rv ta tn tc ts w h hk hnb hbo hdn hT htn htm hta hn0 ht0 hst ⟨h1, h2, h3⟩
end Go.Proofs.YtofhccpagnkalaaGreat

/- The law VowPlays, walked; no conditions. -/
namespace Go.Proofs.YtofhccpagnkalaaGreat
open Go.RowKit Go.Maps Go.Proofs.Own Go.Shelf

set_option maxHeartbeats 1600000 in
set_option maxRecDepth 20000 in
theorem vplays_bad (room : Int) (v : Value) (rs : List VOp) (w : World) (h : OpsIs w v rs) (hb : ¬ (0 ≤ room ∧ room ≤ 1048576 ∧ vLight rs = true)) : Calls Tryz.prog 5 #[.int .i64 room, v] w fun e w' => e = .returned (.bool true) ∧ Below w.heap.size w w' := by
  have HL := Lib.hid h
  obtain ⟨la, lc, rfl, _⟩ := h.1.shape
  clear h
  rw [List.length_map] at HL ⊢
  generalize hn : rs.length = n at HL ⊢
  by_cases h1 : 0 ≤ room
  · have c1 : ¬ room < 0 := by omega
    by_cases h2 : room ≤ 1048576
    · have c2 : ¬ 1048576 < room := by omega
      have HV : Hid (vLight rs = false) := Lib.hid (by simpa [h1, h2] using hb)
      clear hb h1 h2
      go_enter Tryz.func5, Tryz.ntmps5
      go_wp2_with fail
      refine (vlight_any _ rs w HL.out).mono ?_
      rintro e w1 ⟨rfl, hb1⟩
      rw [HV.out]
      have B1 := Lib.hid hb1
      clear hb1
      go_wp2_with fail
      refine (vlives_any _).mono ?_
      rintro e wz ⟨rfl, hbz⟩
      have BZ := Lib.hid hbz
      clear hbz
      go_wp2_with fail
      go_ret
      exact ⟨rfl, B1.out.trans (BZ.out.mono B1.out.size)⟩
    · have c2 : 1048576 < room := by omega
      clear hb h1 h2
      go_enter Tryz.func5, Tryz.ntmps5
      go_wp2_with fail
      refine (vlives_any _).mono ?_
      rintro e wz ⟨rfl, hbz⟩
      have BZ := Lib.hid hbz
      clear hbz
      go_wp2_with fail
      go_ret
      exact ⟨rfl, BZ.out⟩
  · have c1 : room < 0 := by omega
    clear hb h1
    go_enter Tryz.func5, Tryz.ntmps5
    go_wp2_with fail
    refine (vlives_any _).mono ?_
    rintro e wz ⟨rfl, hbz⟩
    have BZ := Lib.hid hbz
    clear hbz
    go_wp2_with fail
    go_ret
    exact ⟨rfl, BZ.out⟩
def dRoom (room : Int) : DiskS := ⟨room, [], false, -1, 0⟩
theorem dRoom_good {room : Int} (h0 : 0 ≤ room) (h1 : room ≤ 1048576) : DGood (dRoom room) := ⟨⟨h0, h1, by show (-1 : Int) ≤ -1; decide, by show (-1 : Int) ≤ _; decide, by show (0 : Int) ≤ 0; decide, by show (0 : Int) ≤ _; decide, by show 0 ≤ 1000; decide, fun f h => by cases h⟩, by show (0 : Nat) ≤ _; decide, by show 0 ≤ 128; decide⟩

set_option maxHeartbeats 4000000 in
set_option maxRecDepth 20000 in
theorem vplays_good (room : Int) (rs : List VOp) (la : Option Addr) (lc : Nat) (w : World) (hl : OpsIs w (.slice la rs.length lc) rs) (h0 : 0 ≤ room) (h1 : room ≤ 1048576) (h2 : vLight rs = true) : Calls Tryz.prog 5 #[.int .i64 room, .slice la rs.length lc] w fun e w' => e = .returned (.bool true) ∧ Below w.heap.size w w' := by
  have HL := Lib.hid hl
  have HLT := Lib.hid h2
  have HR := Lib.hid (And.intro h0 h1)
  obtain ⟨n, hn⟩ : ∃ n, rs.length = n := ⟨_, rfl⟩
  have HN := Lib.hid hn
  have H120 : Hid (n ≤ 120) := Lib.hid (by unfold vLight at h2; simp only [Bool.and_eq_true, decide_eq_true_eq] at h2; omega)
  have H40 : Hid (∀ r ∈ rs, r.ts.length ≤ 40) := Lib.hid (by unfold vLight at h2; simp only [Bool.and_eq_true, decide_eq_true_eq, List.all_eq_true] at h2; exact h2.1)
  rw [hn] at HL ⊢
  have b120 : (n : Int) ≤ 120 := by have := H120.out; omega
  have c1 : ¬ room < 0 := by omega
  have c2 : ¬ 1048576 < room := by omega
  clear hl h0 h1 h2 hn
  go_enter Tryz.func5, Tryz.ntmps5
  go_wp2_with fail
  refine (vlight_any _ rs w HL.out).mono ?_
  rintro e wl ⟨rfl, hbl⟩
  rw [HLT.out]
  have BL := Lib.hid hbl
  clear hbl
  go_wp2_with fail
  refine (dnew room wl HR.out.1 HR.out.2).mono ?_
  rintro e w1 ⟨db, mb, tb, rfl, hd1, hb1, h1, h2, h3⟩
  have D1 : Hid (DiskIs w1 db mb tb (dRoom room)) := Lib.hid hd1
  have B1 : Hid (Below w.heap.size w w1) := Lib.hid (BL.out.trans (hb1.mono BL.out.size))
  have HO : Hid (∀ k, Own3 db mb tb k → w.heap.size ≤ k) := Lib.hid (by have := BL.out.size; rintro k (rfl | rfl | rfl) <;> omega)
  clear hd1 hb1 h1 h2 h3 BL c1 c2
  go_wp2_with fail
  refine (rnew_at room w1).mono ?_
  rintro e w2 ⟨rfl, hb2⟩
  have B2 : Hid (Below w.heap.size w w2) := Lib.hid (B1.out.trans (hb2.mono B1.out.size))
  have D2 := Lib.hid (D1.out.below hb2)
  clear hb2
  go_wp2_with fail
  have hbx : BP (w2.alloc (.cells #[.pointer (some ⟨db, 0, none⟩), .pointer none, .int .i64 room, .slice none 0 0, .bool false, .int .i64 (-1), .int .u64 0, .int .u64 0, .int .i64 0] 54)) w2.heap.size db none (dRoom room) (.slice none 0 0) 0 0 := BP.box w2 db (dRoom room) (.slice none 0 0)
  have hal : Below w2.heap.size w2 (w2.alloc (.cells #[.pointer (some ⟨db, 0, none⟩), .pointer none, .int .i64 room, .slice none 0 0, .bool false, .int .i64 (-1), .int .u64 0, .int .u64 0, .int .i64 0] 54)) := (Below.refl _ _).alloc (Nat.le_refl _) _
  have BA := Lib.hid (B2.out.trans (hal.mono B2.out.size))
  have NO : Hid (¬ Own3 db mb tb w2.heap.size) := Lib.hid (fun h => by have := D2.out.lt3 _ h; omega)
  have HBO : Hid (w.heap.size ≤ w2.heap.size) := Lib.hid B2.out.size
  have PA := Lib.hid (show PairIs _ w2.heap.size db mb tb none (dRoom room) 0 0 from ⟨D2.out.below hal, dRoom_good HR.out.1 HR.out.2, ⟨none, 0, 0, rfl, hbx, SRow.nil _ _, fun b h => by cases h⟩, NO.out⟩)
  clear hbx hal D1 B1 B2
  generalize World.alloc w2 _ = wA at *
  generalize w2.heap.size = bo at *
  refine (vreopen_any bo db mb tb none (dRoom room) 0 0 _ [] wA PA.out ⟨SRow.nil _ _, fun t h => by cases h⟩ (by simp) (.inl rfl) (by show (0 : Int) + 3 ≤ _; decide)).mono ?_
  rintro e wB ⟨rfl, b0, hp, hk, hbb, hnb, hbo, hK⟩
  have PB := Lib.hid hp
  have KB := Lib.hid hk
  have NB0 := Lib.hid hnb
  have NO0 := Lib.hid hbo
  have HB0 : Hid (w.heap.size ≤ b0) := Lib.hid (Nat.le_trans BA.out.size hbb)
  have BB : Hid (Below w.heap.size w wB) := Lib.hid (BA.out.trans (hK.below BA.out.size (fun k h => by rcases h with h | h; exact HO.out k h; exact h ▸ HBO.out)))
  have ZB : Hid ((reD (dRoom room) []).steps ≤ 3) := Lib.hid (by have h := (reD_good (dRoom_good HR.out.1 HR.out.2) [] (by show (0 : Int) + 3 ≤ _; decide)).2; have e : (dRoom room).steps = 0 := rfl; omega)
  have UB : Hid ((reD (dRoom room) []).down = false) := Lib.hid (open_calmD (calm_boot _)).1
  clear hp hk hbb hnb hbo hK PA BA D2
  go_wp2_with fail
  go_loopw [31] (fun i wr => ∃ (j : Nat) (D : DiskS) (t v : Int) (bb : Nat), i = .int .i64 j ∧ j ≤ n ∧ D.steps ≤ 7 * (j : Int) + 3 ∧ D.down = false ∧ PairIs wr bo db mb tb (some ⟨bb, 0, none⟩) D t v ∧ BookIs wr bb db t v ∧ ¬ Own3 db mb tb bb ∧ bb ≠ bo ∧ w.heap.size ≤ bb ∧ Below w.heap.size w wr) (fun i _ => n - (intOf i).toNat)
  case atStart => exact ⟨0, _, _, _, b0, rfl, by omega, ZB.out, UB.out, PB.out, KB.out, NB0.out, NO0.out, HB0.out, BB.out⟩
  case round =>
    obtain ⟨j, D, t, v, bb, rfl, hj, hsz, hdn, hp, hk, hnb, hbo, hbb, hbl⟩ := hrel
    have SZ := Lib.hid hsz
    have HDN := Lib.hid hdn
    have HP := Lib.hid hp
    have HK := Lib.hid hk
    have NBB := Lib.hid hnb
    have NBO := Lib.hid hbo
    have HBB := Lib.hid hbb
    have BR := Lib.hid hbl
    clear hsz hdn hp hk hnb hbo hbb hbl
    clear PB KB NB0 NO0 HB0 BB ZB UB
    by_cases hlt : j < n
    · obtain ⟨r, hr, hrm⟩ := getAt (l := rs) (j := j) (by rw [HN.out]; exact hlt)
      obtain ⟨b, o, rfl, hbw, hc⟩ := (HL.out.below BR.out).at hr
      have HOK := Lib.hid (And.intro (HL.out.2.1 r hrm).1 (HL.out.2.1 r hrm).2.1)
      have hts := (HL.out.2.1 r hrm).2.2
      have HR40 := Lib.hid (H40.out r hrm)
      obtain ⟨rta, rtc, htv, _⟩ := hts.1.shape
      rw [List.length_map] at htv
      obtain ⟨rtn, hrn⟩ : ∃ k, r.ts.length = k := ⟨_, rfl⟩
      have HRN := Lib.hid hrn
      rw [hrn] at htv
      rw [htv] at hts
      have HTS := Lib.hid hts
      obtain ⟨x0, x1, x2, x3, x4⟩ := hc
      rw [htv] at x4
      have HTV := Lib.hid htv
      have hj1 : (j : Int) < (n : Int) := by omega
      clear hr hrm hts htv hrn
      have AX : Below wr.heap.size wr (wr.alloc (.cells #[.int .i64 r.k, .int .i64 r.n, .int .u64 r.t, .int .i64 r.v, .slice rta rtn rtc] 66)) := (Below.refl _ _).alloc (Nat.le_refl _) _
      have hox : OC (wr.alloc (.cells #[.int .i64 r.k, .int .i64 r.n, .int .u64 r.t, .int .i64 r.v, .slice rta rtn rtc] 66)) wr.heap.size 0 ⟨r.k, r.n, r.t, r.v, .slice rta rtn rtc, r.ts⟩ := OC.box wr ⟨r.k, r.n, r.t, r.v, .slice rta rtn rtc, r.ts⟩
      go_wp2_with fail
      clear x0 x1 x2 x3 x4 hbw
      generalize World.alloc wr _ = wx at *
      have AX2 := AX.drew
      have HOX := Lib.hid (hox.below ((Below.refl _ _).drew))
      have HPX := Lib.hid (HP.out.below AX2)
      have HKX := Lib.hid (HK.out.below AX2)
      have BX : Hid (Below w.heap.size w wx.drew) := Lib.hid (BR.out.trans (AX2.mono BR.out.size))
      have HTX := Lib.hid (HTS.out.below BX.out)
      have HTA := Lib.hid (HTS.out.apart (R := fun b => Own3 db mb tb b ∨ b = bo ∨ b = bb) (fun k h => by rcases h with h | h | h; exact HO.out k h; exact h ▸ HBO.out; exact h ▸ HBB.out))
      clear AX AX2 hox HP HK BR
      refine region_start [0, 0, 3, 7, 15, 31, 63, 127, 255, 511, 31, 1055, 3103, 7199, 16383, 32767, 65535, 131071, 262143, 524287, 1048575, 2097151, 131071, 4325375, 12713983, 29491199, 63045631, 134217727, 268435455, 536870911, 1073741823, 2147483647, 4294967295, 8589934591, 17179869183, 1073741823, 35433480191, 104152956927, 241591910399, 516469817343, 1099511627775, 2199023255551, 4398046511103] 1098571988960 (fun _ => True) (by kernel_rfl) ?_
      refine stage_heads [0] (by kernel_rfl) (L := #[true, false, false, false, false, false, false, false, false, false, false, false, false, false, false, false, false, false, false, false, false, false, false, false, false, false, false, false, false, false, false, false, false, false, false, false, false, false, false, false, false, false, false]) (by kernel_rfl) (f' := 42) rfl (fun _ _ _ _ h => h) (by first | exact fun _ _ _ => trivial | exact (fun w o h => STD.alloc h o)) (.inl (by kernel_rfl)) ?_
      simp only [List.flatMap_cons, List.flatMap_nil, List.drop_zero, List.take_succ_cons, List.take_zero, List.append_nil]
      iterate 1 (refine heads_pure _ (by rfl) (fun w' => by go_simp; try with_reducible rfl) ?_; simp only [Act.put, List.setIfInBounds_toArray, List.set_cons_zero, List.set_cons_succ])
      refine heads_nil ?_
      refine stage_op 1 (by kernel_rfl) (L := #[true, true, false, false, false, false, false, false, false, false, false, false, false, false, false, false, false, false, false, false, false, false, false, false, false, false, false, false, false, false, false, false, false, false, false, false, false, false, false, false, false, false, false]) (by kernel_rfl) ?_
      simp only [List.drop_succ_cons, List.drop_zero, List.take_succ_cons, List.take_zero]
      obtain ⟨x0, x1, x2, x3, x4⟩ := HOX.out; rw [Nat.zero_add] at x1 x2 x3 x4; go_wp2_with fail; clear x0 x1 x2 x3 x4
      refine step_post nofun ?_
      refine stage_op 2 (by kernel_rfl) (L := #[true, true, true, false, false, false, false, false, false, false, false, false, false, false, false, false, false, false, false, false, false, false, false, false, false, false, false, false, false, false, false, false, false, false, false, false, false, false, false, false, false, false, false]) (by kernel_rfl) ?_
      simp only [List.drop_succ_cons, List.drop_zero, List.take_succ_cons, List.take_zero]
      go_wp2_with fail
      refine (vdo_any bo db mb tb bb D t v r.k r.n r.t r.v rta rtn rtc r.ts _ HPX.out HKX.out NBB.out NBO.out HDN.out HTX.out HRN.out (by have := HR40.out; have := HRN.out; omega) HTA.out HOK.out.1 HOK.out.2 (by have := SZ.out; have := H120.out; omega)).mono ?_
      rintro e wD ⟨rfl, bc, D', t', v', hp, hk, hnc, hco, hbc, hdn, hst, hK⟩
      have HPD := Lib.hid hp
      have HKD := Lib.hid hk
      have NBC := Lib.hid hnc
      have NCO := Lib.hid hco
      have HBC : Hid (w.heap.size ≤ bc) := Lib.hid (by rcases hbc with e | e; exact e ▸ HBB.out; exact Nat.le_trans BX.out.size e)
      have HDD := Lib.hid hdn
      have SD : Hid (D'.steps ≤ 7 * ((j + 1 : Nat) : Int) + 3) := Lib.hid (by have := SZ.out; omega)
      have BD : Hid (Below w.heap.size w wD) := Lib.hid (BX.out.trans (hK.below BX.out.size (fun k h => by rcases h with h | h | h; exact HO.out k h; exact h ▸ HBO.out; exact h ▸ HBB.out)))
      clear hp hk hnc hco hbc hdn hst hK
      obtain ⟨hd, hg, ⟨a, m, c, hn, hb, hs, hap⟩, hno⟩ := HPD.out
      have HD := Lib.hid hd
      have GD := Lib.hid hg
      have HNN := Lib.hid hn
      have HB := Lib.hid hb
      have HS := Lib.hid hs
      have STD := Stable.from wD
      clear hd hg hn hb hs hap hno
      go_wp2_with fail
      refine step_post nofun ?_
      refine stage_switch (fun w' => Below wD.heap.size wD w') (fun _ _ => trivial) ?_
      refine stage_heads [3, 4, 5, 6, 7, 8, 10, 11, 12, 13] (by kernel_rfl) (L := #[true, true, true, true, true, true, true, true, true, false, true, true, true, true, false, false, false, false, false, false, false, false, false, false, false, false, false, false, false, false, false, false, false, false, false, false, false, false, false, false, false, false, false]) (by kernel_rfl) (f' := 30) rfl (fun _ _ _ _ h => h) (by first | exact fun _ _ _ => trivial | exact (fun w o h => STD.alloc h o)) (.inr (by first | exact Below.refl _ _ | exact I9.out | exact I21.out | exact I34.out)) ?_
      simp only [List.flatMap_cons, List.flatMap_nil, List.drop_succ_cons, List.drop_zero, List.take_succ_cons, List.take_zero, List.cons_append, List.nil_append, List.append_nil]
      iterate 10 (first | (refine heads_load _ (by rfl) (fun w' hs => by obtain ⟨q0, q1, q2, q3, q4, q5, q6, q7, q8, _⟩ := HB.out.below hs; go_simp; try with_reducible rfl) rfl ?_; simp only [Act.put, List.setIfInBounds_toArray, List.set_cons_zero, List.set_cons_succ]) | (refine heads_pure _ (by rfl) (fun w' => by go_simp; try with_reducible rfl) ?_; simp only [Act.put, List.setIfInBounds_toArray, List.set_cons_zero, List.set_cons_succ]) | (refine heads_skip (by rfl) ?_; simp only [Act.put, List.setIfInBounds_toArray, List.set_cons_zero, List.set_cons_succ]))
      refine heads_nil ?_
      refine stage_op 9 (by kernel_rfl) (L := #[true, true, true, true, true, true, true, true, true, true, true, true, true, true, false, false, false, false, false, false, false, false, false, false, false, false, false, false, false, false, false, false, false, false, false, false, false, false, false, false, false, false, false]) (by kernel_rfl) ?_
      simp only [List.drop_succ_cons, List.drop_zero, List.take_succ_cons, List.take_zero]
      go_wp2_with fail; refine (vstate_any bc db t' v' _ HKD.out).mono ?_; rintro e u9 ⟨rfl, hb9⟩; have I9 := Lib.hid hb9; clear hb9; go_wp2_with fail
      refine step_post (fun _ => I9.out) ?_
      refine stage_heads [14, 15, 16, 17, 18, 19, 20, 22, 23, 24, 25, 26] (by kernel_rfl) (L := #[true, true, true, true, true, true, true, true, true, true, true, true, true, true, true, true, true, true, true, true, true, false, true, true, true, true, true, false, false, false, false, false, false, false, false, false, false, false, false, false, false, false, false]) (by kernel_rfl) (f' := 17) rfl (fun _ _ _ _ h => h) (by first | exact fun _ _ _ => trivial | exact (fun w o h => STD.alloc h o)) (.inr (by first | exact Below.refl _ _ | exact I9.out | exact I21.out | exact I34.out)) ?_
      simp only [List.flatMap_cons, List.flatMap_nil, List.drop_succ_cons, List.drop_zero, List.take_succ_cons, List.take_zero, List.cons_append, List.nil_append, List.append_nil]
      iterate 12 (first | (refine heads_load _ (by rfl) (fun w' hs => by obtain ⟨q0, q1, q2, q3, q4, q5, q6, q7, q8, _⟩ := HB.out.below hs; go_simp; try with_reducible rfl) rfl ?_; simp only [Act.put, List.setIfInBounds_toArray, List.set_cons_zero, List.set_cons_succ]) | (refine heads_pure _ (by rfl) (fun w' => by go_simp; try with_reducible rfl) ?_; simp only [Act.put, List.setIfInBounds_toArray, List.set_cons_zero, List.set_cons_succ]) | (refine heads_skip (by rfl) ?_; simp only [Act.put, List.setIfInBounds_toArray, List.set_cons_zero, List.set_cons_succ]))
      refine heads_nil ?_
      refine stage_op 21 (by kernel_rfl) (L := #[true, true, true, true, true, true, true, true, true, true, true, true, true, true, true, true, true, true, true, true, true, true, true, true, true, true, true, false, false, false, false, false, false, false, false, false, false, false, false, false, false, false, false]) (by kernel_rfl) ?_
      simp only [List.drop_succ_cons, List.drop_zero, List.take_succ_cons, List.take_zero]
      go_wp2_with fail; refine (dsteps_any db mb tb D' _ (HD.out.below I9.out)).mono ?_; rintro e u21 ⟨rfl, rfl⟩; have I21 := I9; go_wp2_with fail
      refine step_post (fun _ => I21.out) ?_
      refine stage_heads [27, 28, 29, 30, 31, 32, 33, 35, 36, 37, 38, 39] (by kernel_rfl) (L := #[true, true, true, true, true, true, true, true, true, true, true, true, true, true, true, true, true, true, true, true, true, true, true, true, true, true, true, true, true, true, true, true, true, true, false, true, true, true, true, true, false, false, false]) (by kernel_rfl) (f' := 4) rfl (fun _ _ _ _ h => h) (by first | exact fun _ _ _ => trivial | exact (fun w o h => STD.alloc h o)) (.inr (by first | exact Below.refl _ _ | exact I9.out | exact I21.out | exact I34.out)) ?_
      simp only [List.flatMap_cons, List.flatMap_nil, List.drop_succ_cons, List.drop_zero, List.take_succ_cons, List.take_zero, List.cons_append, List.nil_append, List.append_nil]
      iterate 12 (first | (refine heads_load _ (by rfl) (fun w' hs => by obtain ⟨q0, q1, q2, q3, q4, q5, q6, q7, q8, _⟩ := HB.out.below hs; go_simp; try with_reducible rfl) rfl ?_; simp only [Act.put, List.setIfInBounds_toArray, List.set_cons_zero, List.set_cons_succ]) | (refine heads_pure _ (by rfl) (fun w' => by go_simp; try with_reducible rfl) ?_; simp only [Act.put, List.setIfInBounds_toArray, List.set_cons_zero, List.set_cons_succ]) | (refine heads_skip (by rfl) ?_; simp only [Act.put, List.setIfInBounds_toArray, List.set_cons_zero, List.set_cons_succ]))
      refine heads_nil ?_
      refine stage_op 34 (by kernel_rfl) (L := #[true, true, true, true, true, true, true, true, true, true, true, true, true, true, true, true, true, true, true, true, true, true, true, true, true, true, true, true, true, true, true, true, true, true, true, true, true, true, true, true, false, false, false]) (by kernel_rfl) ?_
      simp only [List.drop_succ_cons, List.drop_zero, List.take_succ_cons, List.take_zero]
      go_wp2_with fail; refine (lfiles_any db mb tb D' _ (HD.out.below I21.out) GD.out.wf).mono ?_; rintro e u34 ⟨v34, rfl, hs34, hb34⟩; have I34 : Hid (Below wD.heap.size wD u34) := Lib.hid (I21.out.trans (hb34.mono I21.out.size)); have S34 := Lib.hid hs34; clear hs34 hb34; go_wp2_with fail
      refine step_post (fun _ => I34.out) ?_
      refine stage_op 40 (by kernel_rfl) (L := #[true, true, true, true, true, true, true, true, true, true, true, true, true, true, true, true, true, true, true, true, true, true, true, true, true, true, true, true, true, true, true, true, true, true, true, true, true, true, true, true, true, false, false]) (by kernel_rfl) ?_
      simp only [List.drop_succ_cons, List.drop_zero, List.take_succ_cons, List.take_zero]
      go_wp2_with fail; refine (rsameL_any _ _ D'.files _ S34.out (HS.out.below I34.out) (by have := GD.out.few; omega)).mono ?_; rintro e u40 ⟨rfl, hb40⟩; have I40 : Hid (Below wD.heap.size wD u40) := Lib.hid (I34.out.trans (hb40.mono I34.out.size)); clear hb40; go_wp2_with fail
      refine step_post nofun ?_
      refine stage_heads [41, 42] (by kernel_rfl) (L := #[true, true, true, true, true, true, true, true, true, true, true, true, true, true, true, true, true, true, true, true, true, true, true, true, true, true, true, true, true, true, true, true, true, true, true, true, true, true, true, true, true, true, true]) (by kernel_rfl) (f' := 0) rfl (fun _ _ _ _ h => h) (by first | exact fun _ _ _ => trivial | exact (fun w o h => STD.alloc h o)) (.inl (by kernel_rfl)) ?_
      simp only [List.flatMap_cons, List.flatMap_nil, List.drop_succ_cons, List.drop_zero, List.take_succ_cons, List.take_zero, List.cons_append, List.nil_append, List.append_nil]
      iterate 2 (first | (refine heads_pure _ (by rfl) (fun w' => by go_simp; try with_reducible rfl) ?_; simp only [Act.put, List.setIfInBounds_toArray, List.set_cons_zero, List.set_cons_succ]) | (refine heads_skip (by rfl) ?_; simp only [Act.put, List.setIfInBounds_toArray, List.set_cons_zero, List.set_cons_succ]))
      refine heads_nil ?_
      refine stage_done (by kernel_rfl) ?_
      go_wp2_with fail
      go_roundw
      case rel => exact ⟨j + 1, D', t', v', bc, by first | rfl | go_num, by omega, SD.out, HDD.out, HPD.out.below I40.out, HKD.out.below I40.out, NBC.out, NCO.out, HBC.out, BD.out.trans (I40.out.mono BD.out.size)⟩
      all_goals (show n - ((j : Int) + 1).toNat < n - ((j : Int)).toNat; omega)
    · obtain rfl : j = n := by omega
      have hj1 : ¬ (j : Int) < (j : Int) := by omega
      go_wp2_with fail
      refine (vlives_any _).mono ?_
      rintro e wz ⟨rfl, hbz⟩
      have BZ := Lib.hid hbz
      clear hbz
      go_wp2_with fail
      go_ret
      exact ⟨rfl, BR.out.trans (BZ.out.mono BR.out.size)⟩
theorem vplays_any (room : Int) (v : Value) (rs : List VOp) (w : World) (h : OpsIs w v rs) : Calls Tryz.prog 5 #[.int .i64 room, v] w fun e w' => e = .returned (.bool true) ∧ Below w.heap.size w w' := by
  by_cases hb : 0 ≤ room ∧ room ≤ 1048576 ∧ vLight rs = true
  · obtain ⟨la, lc, e, _⟩ := h.1.shape
    rw [List.length_map] at e
    subst e
    exact vplays_good room rs la lc w h hb.1 hb.2.1 hb.2.2
  · exact vplays_bad room v rs w h hb
end Go.Proofs.YtofhccpagnkalaaGreat

/- THE STATEMENT VowPlays: whatever is kept, however the power goes, and room ends, each call tells what the document says, and the state and the disk are just that. For every input; no conditions. -/
namespace Go.Proofs.YtofhccpagnkalaaGreat
open Go.ChangeShapes Go.WideShapes Go.ChangeAt Go.RowKit Go.Deep Go.Proofs.Own


set_option maxRecDepth 100000 in
theorem vplays_law_lifted (os : Os) (started : os.Started) (H : Type) (enc : TypeId × Value → H) :
    ReturnsInHanded {} Tryz.checked os 5 .any (Rows.vowPlaysSpec.pre6 enc Tryz.prog Tryz.f5 Rows.vowPlaysRow.domain false) (Rows.vowPlaysSpec.post enc Tryz.prog Tryz.f5 false true false false) := by
  refine returnsInHanded_of_change (C := Tryz.checked) own started (by kernel_rfl) Tryz.func5
    (ChangeSpec.witness6 (enc := enc) (C := Tryz.checked) false ⟨#[], #[.int .i64 0, .slice none 0 0], []⟩ 8 (by kernel_rfl) (by kernel_rfl) (by kernel_rfl) (by kernel_rfl)) ?_
  intro W base args ds gs before hval0 hW hcnd _
  have hval : ∀ (j : Nat) t v, Tryz.f5.params[j]? = some t → args[j]? = some v → Value.okWide Tryz.prog W .any base t v := hval0
  have hW' := hW
  obtain ⟨p, q, hA0, hV, _, hfz, hnd⟩ := hW
  have hA : DataW.TrodAll enc Tryz.prog W 0 (fun _ => true) true Tryz.f5.params.toList args.toList ds p := hA0
  rw [Tryz.params5] at hA hval
  obtain ⟨v0, v1, d0, d1, p0, p1, rfl, rfl, rfl, h0, h1⟩ := trodAll_two hA
  obtain ⟨z0, rfl⟩ := okWide_int Tryz.underlying3 (hval 0 3 v0 rfl rfl)
  obtain ⟨q1, n1, c1, rfl⟩ := okWide_slice Tryz.underlying61 (hval 1 61 v1 rfl rfl); obtain ⟨f1, g1⟩ := h1; obtain ⟨rs, b1⟩ := open_vops (v := .slice q1 n1 c1) g1
  refine (vplays_any z0 _ rs W b1).mono fun e W' ⟨he, hb⟩ => ?_
  exact ⟨_, he, law_post laid (by kernel_rfl) ⟨4, rfl, Tryz.underlying4⟩ rfl (fun ds hds => by
    match ds, hds with
    | [x0, x1], _ => rfl) hW' hb⟩

theorem vplays_law_holds : Rows.VowPlaysSaid :=
  OpenClaim.holds_of_wide 5 Tryz.f5 rfl rfl rfl rfl rfl rfl rfl ⟨rfl, rfl, rfl, rfl, rfl⟩ rfl rfl rfl rfl rfl (by kernel_rfl) Tryz.func5 (by kernel_rfl)
    (of_decide_eq_true (by kernel_rfl)) (by unfold Func.isWrapper; first | (rw [if_pos (by decide +kernel)]; kernel_rfl) | (rw [if_neg (by decide +kernel)]; exact ⟨rfl, rfl⟩))
    (fun os started H enc _ => vplays_law_lifted os started H enc)
#print axioms vplays_law_holds
end Go.Proofs.YtofhccpagnkalaaGreat
