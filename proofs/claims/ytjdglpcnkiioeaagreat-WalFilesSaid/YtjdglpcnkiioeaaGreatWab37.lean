/- Several texts in one: Wyc, Wyd, Wye, Wyf, Wyh. What each proves stands ahead of it; together they serve wkeeps_law_holds,wfiles_law_holds,wnobody_law_holds. No conditions but those stated. -/
import Derived.Test.YtjdglpcnkiioeaaGreatWab17
import Derived.Test.YtjdglpcnkiioeaaGreatWab35
import Derived.Test.YtjdglpcnkiioeaaGreatWab31
import Derived.Test.YtjdglpcnkiioeaaGreatWab36
import Derived.Test.YtjdglpcnkiioeaaGreatWab29
/- Arguments that are slices of a log's calls: their entries, their tears; no conditions. -/
namespace Go.Proofs.YtjdglpcnkiioeaaGreat
open Go.ChangeShapes Go.WideShapes Go.ChangeAt Go.RowKit Go.Deep Go.Proofs.Own

/-- An entry: its numbers, where its data lie. -/
structure EArg where
  t : Int
  k : Int
  da : Option Addr
  dn : Nat
  dc : Nat
def earV (r : EArg) : List Value := [.int .u64 r.t, .int .i64 r.k, .slice r.da r.dn r.dc]
def EArgOk (w : World) (r : EArg) : Prop := (0 ≤ r.t ∧ r.t < 18446744073709551616 ∧ -9223372036854775808 ≤ r.k ∧ r.k ≤ 9223372036854775807) ∧ (r.dn ≤ 2097152 → ∃ l, l.length = r.dn ∧ Bytes w (.slice r.da r.dn r.dc) l)
/-- v: the entries l. -/
def EArgsIs (w : World) (v : Value) (l : List EArg) : Prop := SRow w 3 v (l.map earV) ∧ (∀ r ∈ l, EArgOk w r) ∧ l.length ≤ maxLen
/-- A call: its kind, its number, its index, its entries, its tears. -/
structure WOp where
  k : Int
  n : Int
  a : Nat
  lv : Value
  l : List EArg
  tv : Value
  ts : List (Nat × Nat)
def wopV (r : WOp) : List Value := [.int .i64 r.k, .int .i64 r.n, .int .u64 r.a, r.lv, r.tv]
def WOpOk (w : World) (r : WOp) : Prop := (r.n ≤ 9223372036854775807 ∧ (r.a : Int) < 18446744073709551616) ∧ EArgsIs w r.lv r.l ∧ TearsIs w r.tv r.ts
/-- v: the calls rs. -/
def WOpsIs (w : World) (v : Value) (rs : List WOp) : Prop := SRow w 5 v (rs.map wopV) ∧ (∀ r ∈ rs, WOpOk w r) ∧ rs.length ≤ maxLen
theorem cellsEntry : Tryz.prog.cellsOf 38 = 3 := by kernel_rfl
theorem cellsEntries : Tryz.prog.cellsOf 23 = 1 := by kernel_rfl
theorem cellsTearsW : Tryz.prog.cellsOf 24 = 1 := by kernel_rfl
theorem cellsBytesW : Tryz.prog.cellsOf 36 = 1 := by kernel_rfl
theorem cellsWOp : Tryz.prog.cellsOf 26 = 5 := by kernel_rfl
section
variable {H : Type} {enc : TypeId × Value → H} {W : World}
set_option maxRecDepth 100000 in
theorem open_earg {n : Nat} {cs : List Value} {y : DataW H × List MemPlace} (h : DataW.trod enc Tryz.prog W 0 (fun _ => true) true n 38 cs = some y) : ∃ r : EArg, cs = earV r ∧ EArgOk W r := by
  obtain ⟨xs, k, _, _, hl, hxl, hg⟩ := DataW.trod_struct Tryz.underlying38 h
  rw [cellsEntry] at hl
  match cs, hl with
  | [c0, c1, c2], _ =>
    match xs, hxl with
    | [y0, y1, y2], _ =>
      have g0 := hg 0 _ rfl
      have g1 := hg 1 _ rfl
      have g2 := hg 2 _ rfl
      simp only [List.getElem_toArray, List.getElem_cons_zero, List.getElem_cons_succ] at g0 g1 g2
      rw [cellsU64] at g0
      rw [cellsInt] at g1
      rw [cellsBytesW] at g2
      simp only [List.drop_zero, List.drop_succ_cons, List.take_succ_cons, List.take_zero, List.getElem?_cons_zero, List.getElem?_cons_succ] at g0 g1 g2
      obtain ⟨z0, e0, _, w0⟩ := DataW.trod_int Tryz.underlying22 g0
      obtain rfl : c0 = .int .u64 z0 := by simpa using e0
      obtain ⟨z1, e1, _, w1⟩ := DataW.trod_int Tryz.underlying3 g1
      obtain rfl : c1 = .int .i64 z1 := by simpa using e1
      obtain ⟨ad, nd, cd, rfl, hd⟩ := open_bytes1 g2
      exact ⟨⟨z0, z1, ad, nd, cd⟩, rfl, ⟨(u64_range w0).1, (u64_range w0).2, (i64_range w1).1, (i64_range w1).2⟩, hd⟩
set_option maxRecDepth 100000 in
theorem open_eargs {fuel : Nat} {v : Value} {x : DataW H × List MemPlace} (hf : DataW.trod enc Tryz.prog W 0 (fun _ => true) true fuel 23 [v] = some x) : ∃ l, EArgsIs W v l := by
  obtain ⟨rs, h1, h2⟩ := open_rows (val := earV) (Ok := EArgOk W) Tryz.underlying23 cellsEntry (by decide) (fun n cs y h => open_earg h) hf
  exact ⟨rs, h1, h2⟩
set_option maxRecDepth 100000 in
theorem open_wop {n : Nat} {cs : List Value} {y : DataW H × List MemPlace} (h : DataW.trod enc Tryz.prog W 0 (fun _ => true) true n 26 cs = some y) : ∃ r : WOp, cs = wopV r ∧ WOpOk W r := by
  obtain ⟨xs, k, _, _, hl, hxl, hg⟩ := DataW.trod_struct Tryz.underlying26 h
  rw [cellsWOp] at hl
  match cs, hl with
  | [c0, c1, c2, c3, c4], _ =>
    match xs, hxl with
    | [y0, y1, y2, y3, y4], _ =>
      have g0 := hg 0 _ rfl
      have g1 := hg 1 _ rfl
      have g2 := hg 2 _ rfl
      have g3 := hg 3 _ rfl
      have g4 := hg 4 _ rfl
      simp only [List.getElem_toArray, List.getElem_cons_zero, List.getElem_cons_succ] at g0 g1 g2 g3 g4
      rw [cellsInt] at g0 g1
      rw [cellsU64] at g2
      rw [cellsEntries] at g3
      rw [cellsTearsW] at g4
      simp only [List.drop_zero, List.drop_succ_cons, List.take_succ_cons, List.take_zero, List.getElem?_cons_zero, List.getElem?_cons_succ] at g0 g1 g2 g3 g4
      obtain ⟨z0, e0, _, w0⟩ := DataW.trod_int Tryz.underlying3 g0
      obtain rfl : c0 = .int .i64 z0 := by simpa using e0
      obtain ⟨z1, e1, _, w1⟩ := DataW.trod_int Tryz.underlying3 g1
      obtain rfl : c1 = .int .i64 z1 := by simpa using e1
      obtain ⟨z2, e2, _, w2⟩ := DataW.trod_int Tryz.underlying22 g2
      obtain rfl : c2 = .int .u64 z2 := by simpa using e2
      obtain ⟨l, hl3⟩ := open_eargs g3
      obtain ⟨ts, h4⟩ := open_tears g4
      have r2 := u64_range w2
      refine ⟨⟨z0, z1, z2.toNat, c3, l, c4, ts⟩, ?_, ⟨(i64_range w1).2, ?_⟩, hl3, h4⟩
      · unfold wopV
        simp only
        rw [Int.toNat_of_nonneg r2.1]
      · simp only
        rw [Int.toNat_of_nonneg r2.1]
        exact r2.2
set_option maxRecDepth 100000 in
theorem open_wops {fuel : Nat} {v : Value} {x : DataW H × List MemPlace} (hf : DataW.trod enc Tryz.prog W 0 (fun _ => true) true fuel 28 [v] = some x) : ∃ rs, WOpsIs W v rs := by
  obtain ⟨rs, h1, h2⟩ := open_rows (val := wopV) (Ok := WOpOk W) Tryz.underlying28 cellsWOp (by decide) (fun n cs y h => open_wop h) hf
  exact ⟨rs, h1, h2⟩
end
theorem EArgOk.below {w w' : World} {r : EArg} (h : EArgOk w r) (hb : Below w.heap.size w w') : EArgOk w' r := ⟨h.1, fun e => let ⟨l, h1, h2⟩ := h.2 e; ⟨l, h1, h2.below hb⟩⟩
theorem EArgsIs.below {w w' : World} {v : Value} {l : List EArg} (h : EArgsIs w v l) (hb : Below w.heap.size w w') : EArgsIs w' v l := ⟨h.1.below hb, fun r hr => (h.2.1 r hr).below hb, h.2.2⟩
theorem WOpOk.below {w w' : World} {r : WOp} (h : WOpOk w r) (hb : Below w.heap.size w w') : WOpOk w' r := ⟨h.1, h.2.1.below hb, h.2.2.below hb⟩
theorem WOpsIs.below {w w' : World} {v : Value} {rs : List WOp} (h : WOpsIs w v rs) (hb : Below w.heap.size w w') : WOpsIs w' v rs := ⟨h.1.below hb, fun r hr => (h.2.1 r hr).below hb, h.2.2⟩
/-- The cells of a call in block b from o on. -/
structure WC25 (w : World) (b o : Nat) (r : WOp) : Prop where
  c0 : w.cell? ⟨b, o, none⟩ = some (.int .i64 r.k)
  c1 : w.cell? ⟨b, o + 1, none⟩ = some (.int .i64 r.n)
  c2 : w.cell? ⟨b, o + 2, none⟩ = some (.int .u64 r.a)
  c3 : w.cell? ⟨b, o + 3, none⟩ = some r.lv
  c4 : w.cell? ⟨b, o + 4, none⟩ = some r.tv
theorem WC25.kept {w w' : World} {b o : Nat} {r : WOp} {S : Nat → Prop} (h : WC25 w b o r) (hk : Kept w w' S) (hs : ¬ S b) : WC25 w' b o r :=
  ⟨hk.cell h.c0 hs, hk.cell h.c1 hs, hk.cell h.c2 hs, hk.cell h.c3 hs, hk.cell h.c4 hs⟩
theorem WC25.below {w w' : World} {b o : Nat} {r : WOp} (h : WC25 w b o r) (hb : Below w.heap.size w w') : WC25 w' b o r := h.kept (Kept.of_below hb (S := fun _ => False) fun k h1 h2 => by omega) (fun h => h)
theorem WC25.box (w : World) (r : WOp) : WC25 (w.alloc (.cells #[.int .i64 r.k, .int .i64 r.n, .int .u64 r.a, r.lv, r.tv] 26)) w.heap.size 0 r := ⟨by go_cell, by go_cell, by go_cell, by go_cell, by go_cell⟩
theorem WOpsIs.at {w : World} {a : Option Addr} {n c : Nat} {rs : List WOp} (h : WOpsIs w (.slice a n c) rs) {j : Nat} {r : WOp} (hj : rs[j]? = some r) : ∃ b o, a = some ⟨b, o, none⟩ ∧ b < w.heap.size ∧ WC25 w b (o + j * 5) r := by
  obtain ⟨hl, he⟩ := List.getElem?_eq_some_iff.1 hj
  obtain ⟨b, o, h1, h2, h3⟩ := h.1.at (j := j) (by rw [List.length_map]; exact hl)
  rw [List.getElem_map, he] at h3
  exact ⟨b, o, h1, h2, by have := h3 0 _ rfl; rwa [Nat.add_zero] at this, h3 1 _ rfl, h3 2 _ rfl, h3 3 _ rfl, h3 4 _ rfl⟩
theorem EArgsIs.at {w : World} {a : Option Addr} {n c : Nat} {l : List EArg} (h : EArgsIs w (.slice a n c) l) {j : Nat} {r : EArg} (hj : l[j]? = some r) : ∃ b o, a = some ⟨b, o, none⟩ ∧ b < w.heap.size ∧ w.cell? ⟨b, o + j * 3, none⟩ = some (.int .u64 r.t) ∧ w.cell? ⟨b, o + j * 3 + 1, none⟩ = some (.int .i64 r.k) ∧ w.cell? ⟨b, o + j * 3 + 2, none⟩ = some (.slice r.da r.dn r.dc) := by
  obtain ⟨hl, he⟩ := List.getElem?_eq_some_iff.1 hj
  obtain ⟨b, o, h1, h2, h3⟩ := h.1.at (j := j) (by rw [List.length_map]; exact hl)
  rw [List.getElem_map, he] at h3
  exact ⟨b, o, h1, h2, by have := h3 0 _ rfl; rwa [Nat.add_zero] at this, h3 1 _ rfl, h3 2 _ rfl⟩
/-- A slice of entries whose data are not too long. -/
theorem EArgsIs.ents {w : World} {v : Value} {l : List EArg} (h : EArgsIs w v l) (hd : ∀ r ∈ l, r.dn ≤ 5000) : ∃ el : EntR, EntsIs w v el ∧ el.length = l.length ∧ ∀ p ∈ el, p.1.t < 18446744073709551616 ∧ p.1.k < 18446744073709551616 ∧ p.1.d.length ≤ 5000 := by
  have H : ∀ l : List EArg, (∀ r ∈ l, EArgOk w r ∧ r.dn ≤ 5000) → ∃ el : EntR, entRows el = l.map earV ∧ Datas w (fun _ => False) el ∧ ∀ p ∈ el, p.1.t < 18446744073709551616 ∧ p.1.k < 18446744073709551616 ∧ p.1.d.length ≤ 5000 := by
    intro l
    induction l with
    | nil => exact fun _ => ⟨[], rfl, nofun, nofun⟩
    | cons r l ih =>
      intro hr
      obtain ⟨el, h1, h2, h3⟩ := ih fun q hq => hr q (List.mem_cons_of_mem _ hq)
      obtain ⟨⟨⟨a1, a2, a3, a4⟩, a5⟩, a6⟩ := hr r (List.mem_cons_self ..)
      obtain ⟨d, e, hB⟩ := a5 (by omega)
      refine ⟨(⟨r.t, r.k, d⟩, .slice r.da r.dn r.dc) :: el, ?_, ?_, ?_⟩
      · unfold entRows at h1 ⊢
        rw [List.map_cons, List.map_cons, h1]
        rfl
      · intro p hp
        rcases List.mem_cons.1 hp with rfl | hp
        · exact ⟨hB, ⟨a1, a2, a3, a4⟩, fun _ _ h => h⟩
        · exact h2 p hp
      · intro p hp
        rcases List.mem_cons.1 hp with rfl | hp
        · exact ⟨a2, by simp only; omega, by simp only; omega⟩
        · exact h3 p hp
  obtain ⟨el, h1, h2, h3⟩ := H l fun r hr => ⟨h.2.1 r hr, hd r hr⟩
  refine ⟨el, ⟨by rw [h1]; exact h.1, h2⟩, ?_, h3⟩
  have := congrArg List.length h1
  rw [entRows_length, List.length_map] at this
  exact this
end Go.Proofs.YtjdglpcnkiioeaaGreat

/- Light of a log's calls; no conditions. -/
namespace Go.Proofs.YtjdglpcnkiioeaaGreat
open Go.RowKit Go.Maps Go.Proofs.Own Go.Shelf

theorem getAtW {α : Type} {l : List α} {j : Nat} (hj : j < l.length) : ∃ x, l[j]? = some x ∧ x ∈ l := ⟨l[j], List.getElem?_eq_getElem hj, List.getElem_mem hj⟩
def wLight1 (r : WOp) : Bool := decide (r.l.length ≤ 12 ∧ r.ts.length ≤ 40) && r.l.all (fun e => decide (e.dn ≤ 5000))
def wLight (rs : List WOp) : Bool := rs.all wLight1 && decide (rs.length ≤ 60)
set_option maxHeartbeats 1600000 in
set_option maxRecDepth 20000 in
theorem wlight_any (v : Value) (rs : List WOp) (w : World) (h : WOpsIs w v rs) : Calls Tryz.prog 11 #[v] w fun e w' => e = .returned (.bool (wLight rs)) ∧ Below w.heap.size w w' := by
  obtain ⟨la, lc, rfl, _⟩ := h.1.shape
  rw [List.length_map] at h ⊢
  obtain ⟨n, hn⟩ : ∃ n, rs.length = n := ⟨_, rfl⟩
  have HN := Lib.hid hn
  have HL := Lib.hid h
  have hmx := h.2.2
  rw [hn] at HL hmx ⊢
  unfold maxLen at hmx
  clear h hn
  go_enter Tryz.func11, Tryz.ntmps11
  go_wp2_with fail
  go_loopw [9] (fun i wr => ∃ j : Nat, i = .int .i64 j ∧ j ≤ n ∧ (∀ r ∈ rs.take j, wLight1 r = true) ∧ Below w.heap.size w wr) (fun i _ => n - (intOf i).toNat)
  case atStart => exact ⟨0, rfl, by omega, by simp, Below.refl _ _⟩
  case round =>
    obtain ⟨j, rfl, hj, hall, hb⟩ := hrel
    have BR := Lib.hid hb
    have HA := Lib.hid hall
    clear hb hall
    by_cases hlt : j < n
    · obtain ⟨r, hr, hm⟩ := getAtW (l := rs) (j := j) (by rw [HN.out]; exact hlt)
      obtain ⟨b, o, rfl, hbl, hc⟩ := (HL.out.below BR.out).at hr
      obtain ⟨ta, tc, htv, _⟩ := ((HL.out.2.1 r hm).2.2).1.shape
      have HE := Lib.hid (((HL.out.2.1 r hm).below BR.out).2.1)
      obtain ⟨ea, ec, hev, _⟩ := HE.out.1.shape
      rw [List.length_map] at htv hev
      have hmx2 := HE.out.2.2
      unfold maxLen at hmx2
      have HR := Lib.hid hr
      have HM := Lib.hid hm
      obtain ⟨x0, x1, x2, x3, x4⟩ := hc
      rw [htv] at x4
      rw [hev] at x3 HE
      obtain ⟨r0, hr0⟩ : ∃ r0 : WOp, r = r0 := ⟨_, rfl⟩
      clear hr hm htv hev
      obtain ⟨m, hm⟩ : ∃ m, r.ts.length = m := ⟨_, rfl⟩
      have HT := Lib.hid hm
      obtain ⟨q, hq⟩ : ∃ q, r.l.length = q := ⟨_, rfl⟩
      have HQ := Lib.hid hq
      rw [hm] at x4
      rw [hq] at x3 HE hmx2
      clear hm hq hr0
      have HNO : Hid (¬ (q ≤ 12 ∧ m ≤ 40) → wLight rs = false) := Lib.hid (fun hno => by
        unfold wLight
        have : rs.all wLight1 = false := by
          rw [List.all_eq_false]
          refine ⟨r, HM.out, ?_⟩
          unfold wLight1
          rw [HQ.out, HT.out]
          simp [hno]
        rw [this]
        rfl)
      by_cases h12 : q ≤ 12
      · have b0 : ¬ (12 : Int) < (q : Int) := by omega
        by_cases h40 : m ≤ 40
        · have b1 : ¬ (40 : Int) < (m : Int) := by omega
          go_wp2_with fail
          generalize hwx : World.alloc wr _ = wx
          have BX : Hid (Below w.heap.size w wx) := Lib.hid (by subst hwx; exact BR.out.alloc BR.out.size _)
          have LX : Hid (Below wr.heap.size wr wx) := Lib.hid (by subst hwx; exact (Below.refl _ _).alloc (Nat.le_refl _) _)
          have EX := Lib.hid (HE.out.below LX.out)
          have y3 : wx.cell? ⟨wr.heap.size, 3, none⟩ = some (.slice ea q ec) := by subst hwx; go_cell
          clear hwx x0 x1 x2 x3 x4
          go_wp2_with fail
          go_loopw [26] (fun i wz => ∃ k : Nat, i = .int .i64 k ∧ k ≤ q ∧ (∀ e ∈ r.l.take k, e.dn ≤ 5000) ∧ Below wx.heap.size wx wz) (fun i _ => q - (intOf i).toNat)
          case atStart => exact ⟨0, rfl, by omega, by simp, Below.refl _ _⟩
          case round =>
            obtain ⟨k, rfl, hk, hall2, hb2⟩ := hrel
            have BZ := Lib.hid hb2
            have HA2 := Lib.hid hall2
            clear hb2 hall2
            by_cases hlt2 : k < q
            · obtain ⟨e, he, hme⟩ := getAtW (l := r.l) (j := k) (by rw [HQ.out]; exact hlt2)
              obtain ⟨b2, o2, rfl, hbl2, z0, z1, z2⟩ := (EX.out.below BZ.out).at he
              have HEE := Lib.hid he
              have HME := Lib.hid hme
              clear he hme
              by_cases h5 : e.dn ≤ 5000
              · have b5 : ¬ (5000 : Int) < (e.dn : Int) := by omega
                go_wp2_with fail
                go_roundw
                case rel =>
                  refine ⟨k + 1, by first | rfl | go_num, by omega, fun p hp => ?_, BZ.out.alloc BZ.out.size _⟩
                  rw [List.take_add_one, HEE.out] at hp
                  rcases List.mem_append.1 hp with hp | hp
                  · exact HA2.out p hp
                  · obtain rfl := List.mem_singleton.1 hp
                    exact h5
                all_goals (show q - ((k : Int) + 1).toNat < q - ((k : Int)).toNat; omega)
              · have b5 : (5000 : Int) < (e.dn : Int) := by omega
                have HV : Hid (wLight rs = false) := Lib.hid (by
                  unfold wLight
                  have : rs.all wLight1 = false := by
                    rw [List.all_eq_false]
                    refine ⟨r, HM.out, ?_⟩
                    unfold wLight1
                    have : r.l.all (fun e => decide (e.dn ≤ 5000)) = false := by
                      rw [List.all_eq_false]
                      exact ⟨e, HME.out, by simpa using h5⟩
                    rw [this]
                    simp
                  rw [this]
                  rfl)
                go_wp2_with fail
                go_ret
                exact ⟨by rw [HV.out]; rfl, BX.out.trans ((BZ.out.alloc BZ.out.size _).mono BX.out.size)⟩
            · obtain rfl : k = q := by omega
              have H1 : Hid (wLight1 r = true) := Lib.hid (by
                unfold wLight1
                have : r.l.all (fun e => decide (e.dn ≤ 5000)) = true := by
                  rw [List.all_eq_true]
                  intro e he
                  have := HA2.out e (by rw [List.take_of_length_le (by rw [HQ.out]; exact Nat.le_refl _)]; exact he)
                  simpa using this
                rw [this, HQ.out, HT.out]
                simp [h12, h40])
              go_wp2_with fail
              go_roundw
              case rel =>
                refine ⟨j + 1, by first | rfl | go_num, by omega, fun p hp => ?_, BX.out.trans (BZ.out.mono BX.out.size)⟩
                rw [List.take_add_one, HR.out] at hp
                rcases List.mem_append.1 hp with hp | hp
                · exact HA.out p hp
                · obtain rfl := List.mem_singleton.1 hp
                  exact H1.out
              all_goals (show n - ((j : Int) + 1).toNat < n - ((j : Int)).toNat; omega)
        · have b1 : (40 : Int) < (m : Int) := by omega
          have HV : Hid (wLight rs = false) := Lib.hid (HNO.out (fun q => h40 q.2))
          go_wp2_with fail
          go_ret
          exact ⟨by rw [HV.out]; rfl, BR.out.alloc BR.out.size _⟩
      · have b0 : (12 : Int) < (q : Int) := by omega
        have HV : Hid (wLight rs = false) := Lib.hid (HNO.out (fun q => h12 q.1))
        go_wp2_with fail
        go_ret
        exact ⟨by rw [HV.out]; rfl, BR.out.alloc BR.out.size _⟩
    · obtain rfl : j = n := by omega
      have hal : rs.all wLight1 = true := by
        rw [List.all_eq_true]
        intro r hr
        exact HA.out r (by rw [List.take_of_length_le (by rw [HN.out]; exact Nat.le_refl _)]; exact hr)
      by_cases h1 : j ≤ 60
      · have b1 : (j : Int) ≤ 60 := by omega
        have HV : Hid (wLight rs = true) := Lib.hid (by unfold wLight; rw [hal, HN.out]; simpa using h1)
        clear hal
        go_wp2_with fail
        go_ret
        exact ⟨by rw [HV.out]; rfl, BR.out⟩
      · have b1 : ¬ (j : Int) ≤ 60 := by omega
        have HV : Hid (wLight rs = false) := Lib.hid (by unfold wLight; rw [hal, HN.out]; simpa using h1)
        clear hal
        go_wp2_with fail
        go_ret
        exact ⟨by rw [HV.out]; rfl, BR.out⟩
end Go.Proofs.YtjdglpcnkiioeaaGreat

/- One of a log's own calls, by its kind; no conditions but the ranges. -/
namespace Go.Proofs.YtjdglpcnkiioeaaGreat
open Go.RowKit Go.Maps Go.Proofs.Own Go.Shelf

/-- What a call leaves of the memory, seen from an earlier world. -/
theorem LogPost.back {lb db mb tb : Nat} {ev fv : Value} {r : DiskS × WalS × Nat} {w w0 w' : World} {E : Ending} (h : LogPost lb db mb tb ev fv r w0 E w') (hb : Below w.heap.size w w0) : LogPost lb db mb tb ev fv r w E w' := by
  obtain ⟨e, ev', fv', el', h1, h2⟩ := h
  exact ⟨e, ev', fv', el', h1, (LStep.below hb).trans h2⟩
set_option maxHeartbeats 4000000 in
set_option maxRecDepth 20000 in
theorem wcall {lb db mb tb : Nat} {ev fv : Value} {el ml : EntR} {D : DiskS} {L : WalS} {w : World} (h : LogAt w lb db mb tb ev fv el D L) (hi : CutI D L) (hst : D.steps + 200 ≤ 1000000000) (r : WOp) (hr : (r.a : Int) < 18446744073709551616) (hm : ArgE w (LOwn lb db mb tb ev fv) r.lv ml) (hf : Few ml) :
    Calls Tryz.prog 14 #[.pointer (some ⟨lb, 0, none⟩), .agg #[.int .i64 r.k, .int .i64 r.n, .int .u64 r.a, r.lv, r.tv]] w (LogPost lb db mb tb ev fv (callW r.k r.a (ml.map (·.1)) D L) w) := by
  obtain ⟨k, n, a, lv, l, tv, ts⟩ := r
  simp only at hr hm ⊢
  obtain ⟨P, hinv⟩ := hi.inv
  obtain ⟨hok, hes⟩ := hinv.lok hi.good
  have hfew := hinv.few hi.good
  obtain ⟨W1, hW1⟩ : ∃ W1 : World, W1 = w.alloc (.cells #[.int .i64 k, .int .i64 n, .int .u64 a, lv, tv] 26) := ⟨_, rfl⟩
  have B : Hid (Below w.heap.size w W1) := Lib.hid (by subst hW1; exact (Below.refl _ _).alloc (Nat.le_refl _) _)
  have H1 := Lib.hid (h.below B.out)
  have M1 : Hid (ArgE W1 (LOwn lb db mb tb ev fv) lv ml) := Lib.hid (hm.kept (Kept.of_below B.out fun k h1 h2 => by omega))
  have x0 : W1.cell? ⟨w.heap.size, 0, none⟩ = some (.int .i64 k) := by subst hW1; go_cell
  have x2 : W1.cell? ⟨w.heap.size, 2, none⟩ = some (.int .u64 a) := by subst hW1; go_cell
  have x3 : W1.cell? ⟨w.heap.size, 3, none⟩ = some lv := by subst hW1; go_cell
  have HI := Lib.hid hi
  have HINV := Lib.hid hinv
  have HOK := Lib.hid hok
  have HST := Lib.hid hst
  have HF := Lib.hid hf
  have HA := Lib.hid hr
  have HFW : Hid (L.fs.length ≤ 1000000) := Lib.hid (by omega)
  have HS2 : Hid (D.steps + L.fs.length ≤ 1000000000) := Lib.hid (by omega)
  have HS1 : Hid (D.steps + 1 ≤ 1000000000) := Lib.hid (by omega)
  obtain ⟨la, lc, hlv, _⟩ := hm.row.shape
  subst hlv
  clear h hi hst hr hm hf hinv hok hes hfew
  by_cases h1 : k = 1
  · have b1 : (k == 1) = true := beq_iff_eq.2 h1
    have HR : Hid (callW k a (ml.map (·.1)) D L = syncW D L) := Lib.hid (by unfold callW; rw [if_pos h1])
    clear h1
    go_enter Tryz.func14, Tryz.ntmps14
    go_wp2_with fail
    rw [← hW1]
    go_wp2_with fail
    refine (wsync H1.out HI.out.good.wf HOK.out HFW.out HINV.out.empty).mono ?_
    intro E W' hp
    have HP := Lib.hid (hp.back B.out)
    obtain ⟨rfl, _⟩ := hp
    go_wp2_with fail
    go_ret
    rw [HR.out]
    exact HP.out
  · have b1 : (k == 1) = false := beq_eq_false_iff_ne.2 h1
    by_cases h2 : k = 2
    · have b2 : (k == 2) = true := beq_iff_eq.2 h2
      have HR : Hid (callW k a (ml.map (·.1)) D L = cutW D L a) := Lib.hid (by unfold callW; rw [if_neg h1, if_pos h2])
      clear h1 h2
      go_enter Tryz.func14, Tryz.ntmps14
      go_wp2_with fail
      rw [← hW1]
      go_wp2_with fail
      refine (wcut H1.out HI.out HST.out a HA.out).mono ?_
      intro E W' hp
      have HP := Lib.hid (hp.back B.out)
      obtain ⟨rfl, _⟩ := hp
      go_wp2_with fail
      go_ret
      rw [HR.out]
      exact HP.out
    · have b2 : (k == 2) = false := beq_eq_false_iff_ne.2 h2
      by_cases h3 : k = 3
      · have b3 : (k == 3) = true := beq_iff_eq.2 h3
        have HR : Hid (callW k a (ml.map (·.1)) D L = dropW D L a) := Lib.hid (by unfold callW; rw [if_neg h1, if_neg h2, if_pos h3])
        clear h1 h2 h3
        go_enter Tryz.func14, Tryz.ntmps14
        go_wp2_with fail
        rw [← hW1]
        go_wp2_with fail
        refine (wdrop H1.out HI.out HST.out a HA.out).mono ?_
        intro E W' hp
        have HP := Lib.hid (hp.back B.out)
        obtain ⟨rfl, _⟩ := hp
        go_wp2_with fail
        go_ret
        rw [HR.out]
        exact HP.out
      · have b3 : (k == 3) = false := beq_eq_false_iff_ne.2 h3
        by_cases h4 : k = 4
        · have b4 : (k == 4) = true := beq_iff_eq.2 h4
          have HR : Hid (callW k a (ml.map (·.1)) D L = resetW D L a) := Lib.hid (by unfold callW; rw [if_neg h1, if_neg h2, if_neg h3, if_pos h4])
          clear h1 h2 h3 h4
          go_enter Tryz.func14, Tryz.ntmps14
          go_wp2_with fail
          rw [← hW1]
          go_wp2_with fail
          refine (wreset H1.out HI.out.good HOK.out HS2.out HFW.out a).mono ?_
          intro E W' hp
          have HP := Lib.hid (hp.back B.out)
          obtain ⟨rfl, _⟩ := hp
          go_wp2_with fail
          go_ret
          rw [HR.out]
          exact HP.out
        · have b4 : (k == 4) = false := beq_eq_false_iff_ne.2 h4
          have HR : Hid (callW k a (ml.map (·.1)) D L = appendW D L (ml.map (·.1))) := Lib.hid (by unfold callW; rw [if_neg h1, if_neg h2, if_neg h3, if_neg h4])
          clear h1 h2 h3 h4
          go_enter Tryz.func14, Tryz.ntmps14
          go_wp2_with fail
          rw [← hW1]
          go_wp2_with fail
          refine (wappend_any H1.out HINV.out HI.out.good HS1.out M1.out HF.out).mono ?_
          intro E W' hp
          have HP := Lib.hid (hp.back B.out)
          obtain ⟨rfl, _⟩ := hp
          go_wp2_with fail
          go_ret
          rw [HR.out]
          exact HP.out
end Go.Proofs.YtjdglpcnkiioeaaGreat

/- What a log is when its disk crashes, and what the log that is opened anew has; plain. -/
namespace Go.Proofs.YtjdglpcnkiioeaaGreat
open Go.RowKit Go.Maps Go.Proofs.Own Go.Shelf

def dMaxW : DiskS := ⟨1048576, [], false, -1, 0⟩
theorem dMaxW_good : DGood dMaxW := ⟨⟨by decide, by decide, by decide, by decide, by decide, by decide, by decide, fun f h => by cases h⟩, by decide, by decide⟩
theorem dMaxW_open : openW dMaxW 0 = (dMaxW, some lX, 0) := (open_none (D := dMaxW) (b := 0) ⟨rfl, rfl⟩ (by decide) rfl).1
/-- A log at its disk's crash: ms: what was being written. -/
structure TailP (D : DiskS) (L : WalS) (ms : List EntS) : Prop where
  good : DGood D
  ris : Rising D.files
  st : D.steps ≤ 20000
  b : L.b < H59
  last : L.last ≤ H59
  few : L.es.length ≤ 131072
  safe : L.safe ≤ 131072
  opened : ∀ ts, Opened (bootD (crashD D ts)) L.b (L.es ++ ms) L.safe (L.es ++ ms).length
theorem tail_up {D : DiskS} {L : WalS} (h : CutI D L) (hs : D.steps ≤ 20000) : TailP D L [] := by
  obtain ⟨⟨P, hi⟩, hd, hr, hg⟩ := h
  obtain ⟨hok, hes⟩ := hi.lok hg
  refine ⟨hg, hr, hs, hi.lo.1, hi.hi, hes, Nat.le_trans hi.safe hes, fun ts => ?_⟩
  rw [List.append_nil]
  exact keeps_law hi hr ts
theorem tail_dn {r : DiskS × WalS × Nat} {ms : List EntS} (h : OpDn ms r) (hg : DGood r.1) (hr : Rising r.1.files) (hs : r.1.steps ≤ 20000) : TailP r.1 r.2.1 ms := by
  have hk := fun ts => keeps_dn h hr ts
  obtain ⟨_, _, L, P, h1, h2, h3, h4⟩ := h
  obtain ⟨hok, hes⟩ := h1.lok hg
  have hle : r.2.1.es.length ≤ L.es.length := by
    rcases h4 with h4 | h4 <;> rw [h4]
    · exact Nat.le_refl _
    · rw [List.length_append]; omega
  have hsafe : r.2.1.safe ≤ 131072 := by
    have h5 := h1.safe
    rw [h3] at h5
    omega
  refine ⟨hg, hr, hs, by rw [← h2]; exact h1.lo.1, ?_, by omega, hsafe, hk⟩
  have := h1.hi
  unfold WalS.last
  rw [h2] at this
  omega
end Go.Proofs.YtjdglpcnkiioeaaGreat

/- The chapter's example of wal; no conditions. -/
namespace Go.Proofs.YtjdglpcnkiioeaaGreat
open Go.RowKit Go.Maps Go.Proofs.Own Go.Shelf

def xV : EntS × Value := (xE, .slice none 0 0)
/-- The example's world: the log, its argument's box, the rows made of it. -/
structure WX (w0 cw : World) (lb db mb tb xb : Nat) (qs : List (Nat × Nat)) (D : DiskS) (L : WalS) : Prop where
  log : ∃ ev fv el, LogAt cw lb db mb tb ev fv el D L ∧ (∀ b, LOwn lb db mb tb ev fv b → w0.heap.size ≤ b) ∧ ¬ LOwn lb db mb tb ev fv xb ∧ ∀ p ∈ qs, ¬ LOwn lb db mb tb ev fv p.1
  box : EC cw xb 1 1 (.slice none 0 0)
  args : ∀ p ∈ qs, SRow cw 3 (.slice (some ⟨p.1, 0, none⟩) p.2 p.2) (entRows (List.replicate p.2 xV)) ∧ p.1 < cw.heap.size
  bel : Below w0.heap.size w0 cw
theorem WX.below {w0 cw cw' : World} {lb db mb tb xb : Nat} {qs : List (Nat × Nat)} {D : DiskS} {L : WalS} (h : WX w0 cw lb db mb tb xb qs D L) (hb : Below cw.heap.size cw cw') : WX w0 cw' lb db mb tb xb qs D L := by
  obtain ⟨ev, fv, el, h1, h2⟩ := h.log
  exact ⟨⟨ev, fv, el, h1.below hb, h2⟩, h.box.below hb, fun p hp => ⟨(h.args p hp).1.below hb, Nat.lt_of_lt_of_le (h.args p hp).2 hb.size⟩, h.bel.trans (hb.mono h.bel.size)⟩
theorem srow_x1 (w : World) : SRow (w.alloc (.cells #[.int .u64 1, .int .i64 1, .slice none 0 0] 38)) 3 (.slice (some ⟨w.heap.size, 0, none⟩) 1 1) (entRows (List.replicate 1 xV)) := srow_lit3 w (.int .u64 1) (.int .i64 1) (.slice none 0 0) _
theorem srow_x2 (w : World) : SRow (w.alloc (.cells #[.int .u64 1, .int .i64 1, .slice none 0 0, .int .u64 1, .int .i64 1, .slice none 0 0] 38)) 3 (.slice (some ⟨w.heap.size, 0, none⟩) 2 2) (entRows (List.replicate 2 xV)) := by
  refine ⟨_, _, rfl, Nat.le_refl _, fun j hj => ?_⟩
  have hj' : j < 2 := hj
  refine ⟨w.heap.size, 0, rfl, by simp, fun i u hu => ?_⟩
  match j, hj' with
  | 0, _ =>
    have hu' : [Value.int .u64 1, .int .i64 1, .slice none 0 0][i]? = some u := hu
    match i, hu' with
    | 0, hu' => obtain rfl : Value.int .u64 1 = u := by simpa using hu'
                go_cell
    | 1, hu' => obtain rfl : Value.int .i64 1 = u := by simpa using hu'
                go_cell
    | 2, hu' => obtain rfl : Value.slice none 0 0 = u := by simpa using hu'
                go_cell
    | i + 3, hu' => simp at hu'
  | 1, _ =>
    have hu' : [Value.int .u64 1, .int .i64 1, .slice none 0 0][i]? = some u := hu
    match i, hu' with
    | 0, hu' => obtain rfl : Value.int .u64 1 = u := by simpa using hu'
                go_cell
    | 1, hu' => obtain rfl : Value.int .i64 1 = u := by simpa using hu'
                go_cell
    | 2, hu' => obtain rfl : Value.slice none 0 0 = u := by simpa using hu'
                go_cell
    | i + 3, hu' => simp at hu'
theorem WX.made {w0 cw cw' : World} {lb db mb tb xb n : Nat} {qs : List (Nat × Nat)} {D : DiskS} {L : WalS} (h : WX w0 cw lb db mb tb xb qs D L) {o : Obj} (he : cw.alloc o = cw') (hs : SRow (cw.alloc o) 3 (.slice (some ⟨cw.heap.size, 0, none⟩) n n) (entRows (List.replicate n xV))) :
    WX w0 cw' lb db mb tb xb ((cw.heap.size, n) :: qs) D L := by
  subst he
  have hb : Below cw.heap.size cw (cw.alloc o) := (Below.refl _ _).alloc (Nat.le_refl _) _
  have h' := h.below hb
  obtain ⟨ev, fv, el, h1, h2, h3, h4⟩ := h.log
  obtain ⟨_, _, _, _, _⟩ := h'.log
  refine ⟨⟨ev, fv, el, h1.below hb, h2, h3, fun p hp => ?_⟩, h'.box, fun p hp => ?_, h'.bel⟩
  · rcases List.mem_cons.1 hp with rfl | hp
    · exact fun e => by have := h1.own_lt e; omega
    · exact h4 p hp
  · rcases List.mem_cons.1 hp with rfl | hp
    · exact ⟨hs, by simp⟩
    · exact h'.args p hp
theorem WX.step {w0 cw cw' : World} {lb db mb tb xb : Nat} {qs : List (Nat × Nat)} {D D' : DiskS} {L L' : WalS} (h : WX w0 cw lb db mb tb xb qs D L) {ev fv ev' fv' : Value} {el' : EntR} (hlog : (∀ b, LOwn lb db mb tb ev fv b → w0.heap.size ≤ b) ∧ ¬ LOwn lb db mb tb ev fv xb ∧ ∀ p ∈ qs, ¬ LOwn lb db mb tb ev fv p.1)
    (hl : LogAt cw' lb db mb tb ev' fv' el' D' L') (hs : LStep lb db mb tb cw ev fv cw' ev' fv') : WX w0 cw' lb db mb tb xb qs D' L' := by
  obtain ⟨h1, h2, h3⟩ := hlog
  have hno : ∀ b, b < cw.heap.size → ¬ LOwn lb db mb tb ev fv b → ¬ LOwn lb db mb tb ev' fv' b := by
    intro b hb hn hq
    rcases hq with hq | hq | hq | hq
    · exact hn (.inl hq)
    · exact hn (.inr (.inl hq))
    · rcases hs.2.1 b hq with e | e
      · exact hn (.inr (.inr (.inl e)))
      · omega
    · rcases hs.2.2 b hq with e | e
      · exact hn (.inr (.inr (.inr e)))
      · omega
  have hge : ∀ b, LOwn lb db mb tb ev' fv' b → w0.heap.size ≤ b := by
    intro b hq
    have hz := h.bel.size
    rcases hq with hq | hq | hq | hq
    · exact h1 b (.inl hq)
    · exact h1 b (.inr (.inl hq))
    · rcases hs.2.1 b hq with e | e
      · exact h1 b (.inr (.inr (.inl e)))
      · omega
    · rcases hs.2.2 b hq with e | e
      · exact h1 b (.inr (.inr (.inr e)))
      · omega
  refine ⟨⟨ev', fv', el', hl, hge, hno xb h.box.lt h2, fun p hp => hno p.1 (h.args p hp).2 (h3 p hp)⟩, h.box.kept hs.1 h2, fun p hp => ⟨(h.args p hp).1.kept hs.1 (.inr fun b hb e => ?_), Nat.lt_of_lt_of_le (h.args p hp).2 hs.1.size⟩, h.bel.trans (hs.1.below h.bel.size fun k hk => h1 k hk)⟩
  obtain rfl : p.1 = b := Option.some.inj hb
  exact h3 p hp e
theorem datas_x (w : World) (S : Nat → Prop) (n : Nat) : Datas w S (List.replicate n xV) := fun p hp => by
  obtain ⟨_, rfl⟩ := List.mem_replicate.1 hp
  exact ⟨Bytes.nil w, ⟨by decide, by decide, by decide, by decide⟩, nofun⟩
theorem map_x (n : Nat) : (List.replicate n xV).map (·.1) = List.replicate n xE := by rw [List.map_replicate]; rfl
theorem lx_append {w0 cw : World} {lb db mb tb xb b n : Nat} {qs : List (Nat × Nat)} {D : DiskS} {L : WalS} {P : List Pc} (h : WX w0 cw lb db mb tb xb qs D L) (hp : (b, n) ∈ qs) (hn : n ≤ 100) (hi : WInv D L P) (hg : DGood D) (hst : D.steps + 1 ≤ 1000000000) :
    Calls Tryz.prog 57 #[.pointer (some ⟨lb, 0, none⟩), .slice (some ⟨b, 0, none⟩) n n] cw fun e w' => e = .returned (.int .i64 (appendW D L (List.replicate n xE)).2.2) ∧ WX w0 w' lb db mb tb xb qs (appendW D L (List.replicate n xE)).1 (appendW D L (List.replicate n xE)).2.1 := by
  obtain ⟨ev, fv, el, h1, h2, h3, h4⟩ := h.log
  have hf : Few (List.replicate n xV) := ⟨by rw [List.length_replicate]; exact hn, fun p hp => by
    obtain ⟨_, rfl⟩ := List.mem_replicate.1 hp
    exact ⟨by decide, by decide, by decide⟩⟩
  have hm : ArgE cw (LOwn lb db mb tb ev fv) (.slice (some ⟨b, 0, none⟩) n n) (List.replicate n xV) := ⟨(h.args _ hp).1, (datas_x _ _ _).toN, .inr fun k hk e => by
    obtain rfl : b = k := Option.some.inj hk
    exact h4 _ hp e⟩
  refine (wappend_any h1 hi hg hst hm hf).mono ?_
  rintro E w' ⟨rfl, ev', fv', el', h5, h6⟩
  rw [map_x] at h5 ⊢
  exact ⟨rfl, h.step ⟨h2, h3, h4⟩ h5 h6⟩
theorem lx_sync {w0 cw : World} {lb db mb tb xb : Nat} {qs : List (Nat × Nat)} {D : DiskS} {L : WalS} {P : List Pc} (h : WX w0 cw lb db mb tb xb qs D L) (hi : WInv D L P) (hg : DGood D) :
    Calls Tryz.prog 58 #[.pointer (some ⟨lb, 0, none⟩)] cw fun e w' => e = .returned (.int .i64 (syncW D L).2.2) ∧ WX w0 w' lb db mb tb xb qs (syncW D L).1 (syncW D L).2.1 := by
  obtain ⟨ev, fv, el, h1, h2, h3, h4⟩ := h.log
  refine (wsync h1 hg.wf (hi.lok hg).1 (by have := hi.few hg; omega) hi.empty).mono ?_
  rintro E w' ⟨rfl, ev', fv', el', h5, h6⟩
  exact ⟨rfl, h.step ⟨h2, h3, h4⟩ h5 h6⟩

set_option maxHeartbeats 4000000 in
set_option maxRecDepth 20000 in
theorem wlives_any (w : World) : Calls Tryz.prog 12 #[] w fun e w' => e = .returned (.bool true) ∧ Below w.heap.size w w' := by
  go_enter Tryz.func12, Tryz.ntmps12
  go_wp2_with fail
  refine (dnew 1000 w (by decide) (by decide)).mono ?_
  rintro e w1 ⟨db, mb, tb, rfl, hd1, hb1, h1, h2, h3⟩
  have D1 : Hid (DiskIs w1 db mb tb dX) := Lib.hid hd1
  have B1 := Lib.hid hb1
  have HO : Hid (∀ k, Own3 db mb tb k → w.heap.size ≤ k) := Lib.hid (by rintro k (rfl | rfl | rfl) <;> assumption)
  clear hd1 hb1 h1 h2 h3
  go_wp2_with fail
  have WO : Calls Tryz.prog 19 #[.pointer (some ⟨db, 0, none⟩), .int .u64 0] w1 (OpenWP db mb tb (openW dX 0) w1) := wopen_late D1.out x_good (by decide) 0 (by decide) (by decide)
  rw [x_open] at WO
  refine WO.mono ?_
  clear WO
  rintro e w2 ⟨_, hk2, _, hs2⟩
  obtain ⟨lb, ev, fv, el, rfl, hl2, hlb, hev, hfv⟩ := hs2 lX rfl
  have LG : Hid (LogAt w2 lb db mb tb ev fv el dX lX) := Lib.hid hl2
  have B2 : Hid (Below w.heap.size w w2) := Lib.hid (B1.out.trans (hk2.below B1.out.size HO.out))
  have HGE : Hid (∀ b, LOwn lb db mb tb ev fv b → w.heap.size ≤ b) := Lib.hid (by
    have hz := B1.out.size
    rintro b (hq | hq | hq | hq)
    · omega
    · exact HO.out b hq
    · have := hev b hq; omega
    · have := hfv b hq; omega)
  clear hk2 hs2 hl2 hlb hev hfv
  go_wp2_with fail
  generalize hw3 : World.alloc w2 _ = w3
  have BA : Below w2.heap.size w2 w3 := by subst hw3; exact (Below.refl _ _).alloc (Nat.le_refl _) _
  have XC : EC w3 w2.heap.size 1 1 (.slice none 0 0) := by subst hw3; exact ⟨by go_cell, by go_cell, by go_cell, by simp, by simp, by simp⟩
  have LX : Hid (WX w w3 lb db mb tb w2.heap.size [] dX lX) := Lib.hid ⟨⟨ev, fv, el, LG.out.below BA, HGE.out, fun e => by have := LG.out.own_lt e; omega, nofun⟩, XC, nofun, B2.out.trans (BA.mono B2.out.size)⟩
  clear hw3 BA XC LG B2 HGE
  generalize w2.heap.size = xb at *
  go_wp2_with fail
  refine region_start [0, 0, 0, 6, 15, 0, 63, 0, 0, 256, 1023, 2047, 4095, 8191] 80 (fun w' => EC w' xb 1 1 (.slice none 0 0)) (by kernel_rfl) ?_
  refine stage_heads [0, 1, 2, 5, 7, 8] (by kernel_rfl) (L := #[true, true, true, false, false, true, false, true, true, false, false, false, false, false]) (by kernel_rfl) (f' := 8) rfl (fun _ _ _ _ h => h) (fun w o h => h.below ((Below.refl _ _).alloc (Nat.le_refl _) o)) (.inr (by first | exact LX.out.box | exact LX.out.box.below ((Below.refl _ _).drew))) ?_
  simp only [List.flatMap_cons, List.flatMap_nil, List.drop_succ_cons, List.drop_zero, List.take_succ_cons, List.take_zero, List.cons_append, List.nil_append, List.append_nil]
  iterate 6 (first | (refine heads_load _ (by rfl) (fun w' hs => by obtain ⟨q0, q1, q2, _, _, _⟩ := hs; go_simp; try with_reducible rfl) rfl ?_; simp only [Act.put, List.setIfInBounds_toArray, List.set_cons_zero, List.set_cons_succ]) | (refine heads_pure _ (by rfl) (fun w' => by go_simp; try with_reducible rfl) ?_; simp only [Act.put, List.setIfInBounds_toArray, List.set_cons_zero, List.set_cons_succ]))
  refine heads_nil ?_
  refine stage_two 3 9 (by kernel_rfl) (Lj := #[true, true, true, true, false, true, false, true, true, false, false, false, false, false]) (Lk := #[true, true, true, false, false, true, false, true, true, true, false, false, false, false]) (by kernel_rfl) (by kernel_rfl) ?_ ?_
  · simp only [List.drop_succ_cons, List.drop_zero, List.take_succ_cons, List.take_zero]
    (go_wp2_with fail; (generalize hcw : World.alloc _ _ = ca); first | (have LX := Lib.hid ((LX.out).made (n := 2) hcw (srow_x2 _))) | (have LX := Lib.hid (((LX.out.below ((Below.refl _ _).drew))).made (n := 2) hcw (srow_x2 _))) | (have LX := Lib.hid ((((LX.out.below ((Below.refl _ _).drew)).below ((Below.refl _ _).drew))).made (n := 2) hcw (srow_x2 _))); clear hcw)
    refine step_post nofun ?_
    refine stage_two 4 9 (by kernel_rfl) (Lj := #[true, true, true, true, true, true, false, true, true, false, false, false, false, false]) (Lk := #[true, true, true, true, false, true, false, true, true, true, false, false, false, false]) (by kernel_rfl) (by kernel_rfl) ?_ ?_
    · simp only [List.drop_succ_cons, List.drop_zero, List.take_succ_cons, List.take_zero]
      (obtain ⟨P, hP⟩ := (⟨_, x_inv⟩ : ∃ P, WInv dX lX P); have ee : (((appendW dX lX (List.replicate 2 xE)).2.2 : Nat) : Int) = 0 := (by have h : (appendW dX lX (List.replicate 2 xE)).2.2 = 0 := x_err.1; rw [h]; rfl); (go_wp2_with fail; first | (have WP := lx_append (n := 2) LX.out (by first | exact List.mem_cons_self .. | exact List.mem_cons_of_mem _ (List.mem_cons_self ..)) (by decide) hP x_good (by decide); rw [ee] at WP; refine WP.mono ?_; clear WP) | (have WP := lx_append (n := 2) (LX.out.below ((Below.refl _ _).drew)) (by first | exact List.mem_cons_self .. | exact List.mem_cons_of_mem _ (List.mem_cons_self ..)) (by decide) hP x_good (by decide); rw [ee] at WP; refine WP.mono ?_; clear WP) | (have WP := lx_append (n := 2) ((LX.out.below ((Below.refl _ _).drew)).below ((Below.refl _ _).drew)) (by first | exact List.mem_cons_self .. | exact List.mem_cons_of_mem _ (List.mem_cons_self ..)) (by decide) hP x_good (by decide); rw [ee] at WP; refine WP.mono ?_; clear WP)); clear ee hP; rintro e cx ⟨rfl, hx⟩; have LX : Hid (WX w cx lb db mb tb xb _ rX1.1 rX1.2.1) := Lib.hid hx; clear hx; go_wp2_with fail)
      refine step_post (fun _ => (by first | exact LX.out.box | exact LX.out.box.below ((Below.refl _ _).drew))) ?_
      refine stage_two 6 9 (by kernel_rfl) (Lj := #[true, true, true, true, true, true, true, true, true, false, false, false, false, false]) (Lk := #[true, true, true, true, true, true, false, true, true, true, false, false, false, false]) (by kernel_rfl) (by kernel_rfl) ?_ ?_
      · simp only [List.drop_succ_cons, List.drop_zero, List.take_succ_cons, List.take_zero]
        (obtain ⟨P, hP⟩ := x1.1; have ee : (((syncW rX1.1 rX1.2.1).2.2 : Nat) : Int) = 0 := (by have h : (syncW rX1.1 rX1.2.1).2.2 = 0 := x_err.2.1; rw [h]; rfl); (go_wp2_with fail; first | (have WP := lx_sync LX.out hP x1.2.2.2.1; rw [ee] at WP; refine WP.mono ?_; clear WP) | (have WP := lx_sync (LX.out.below ((Below.refl _ _).drew)) hP x1.2.2.2.1; rw [ee] at WP; refine WP.mono ?_; clear WP) | (have WP := lx_sync ((LX.out.below ((Below.refl _ _).drew)).below ((Below.refl _ _).drew)) hP x1.2.2.2.1; rw [ee] at WP; refine WP.mono ?_; clear WP)); clear ee hP; rintro e cx ⟨rfl, hx⟩; have LX : Hid (WX w cx lb db mb tb xb _ rX2.1 rX2.2.1) := Lib.hid hx; clear hx; go_wp2_with fail)
        refine step_post (fun _ => (by first | exact LX.out.box | exact LX.out.box.below ((Below.refl _ _).drew))) ?_
        refine stage_op 9 (by kernel_rfl) (L := #[true, true, true, true, true, true, true, true, true, true, false, false, false, false]) (by kernel_rfl) ?_
        simp only [List.drop_succ_cons, List.drop_zero, List.take_succ_cons, List.take_zero]
        (go_wp2_with fail; (generalize hcw : World.alloc _ _ = ca); first | (have LX := Lib.hid ((LX.out).made (n := 1) hcw (srow_x1 _))) | (have LX := Lib.hid (((LX.out.below ((Below.refl _ _).drew))).made (n := 1) hcw (srow_x1 _))) | (have LX := Lib.hid ((((LX.out.below ((Below.refl _ _).drew)).below ((Below.refl _ _).drew))).made (n := 1) hcw (srow_x1 _))); clear hcw)
        refine step_post nofun ?_
        refine stage_op 10 (by kernel_rfl) (L := #[true, true, true, true, true, true, true, true, true, true, true, false, false, false]) (by kernel_rfl) ?_
        simp only [List.drop_succ_cons, List.drop_zero, List.take_succ_cons, List.take_zero]
        (obtain ⟨P, hP⟩ := x2.1; have ee : (((appendW rX2.1 rX2.2.1 (List.replicate 1 xE)).2.2 : Nat) : Int) = 0 := (by have h : (appendW rX2.1 rX2.2.1 (List.replicate 1 xE)).2.2 = 0 := x_err.2.2; rw [h]; rfl); (go_wp2_with fail; first | (have WP := lx_append (n := 1) LX.out (by first | exact List.mem_cons_self .. | exact List.mem_cons_of_mem _ (List.mem_cons_self ..)) (by decide) hP x2.2.2.2.1 (by have := x2.2.2.2.2; omega); rw [ee] at WP; refine WP.mono ?_; clear WP) | (have WP := lx_append (n := 1) (LX.out.below ((Below.refl _ _).drew)) (by first | exact List.mem_cons_self .. | exact List.mem_cons_of_mem _ (List.mem_cons_self ..)) (by decide) hP x2.2.2.2.1 (by have := x2.2.2.2.2; omega); rw [ee] at WP; refine WP.mono ?_; clear WP) | (have WP := lx_append (n := 1) ((LX.out.below ((Below.refl _ _).drew)).below ((Below.refl _ _).drew)) (by first | exact List.mem_cons_self .. | exact List.mem_cons_of_mem _ (List.mem_cons_self ..)) (by decide) hP x2.2.2.2.1 (by have := x2.2.2.2.2; omega); rw [ee] at WP; refine WP.mono ?_; clear WP)); clear ee hP; rintro e cx ⟨rfl, hx⟩; have LX : Hid (WX w cx lb db mb tb xb _ rX3.1 rX3.2.1) := Lib.hid hx; clear hx; go_wp2_with fail)
        refine step_post nofun ?_
        refine stage_heads [11, 12, 13] (by kernel_rfl) (L := #[true, true, true, true, true, true, true, true, true, true, true, true, true, true]) (by kernel_rfl) (f' := 0) rfl (fun _ _ _ _ h => h) (fun w o h => h.below ((Below.refl _ _).alloc (Nat.le_refl _) o)) (.inl (by kernel_rfl)) ?_
        simp only [List.flatMap_cons, List.flatMap_nil, List.drop_succ_cons, List.drop_zero, List.take_succ_cons, List.take_zero, List.cons_append, List.nil_append, List.append_nil]
        iterate 3 (refine heads_pure _ (by rfl) (fun w' => by go_simp; try with_reducible rfl) ?_; simp only [Act.put, List.setIfInBounds_toArray, List.set_cons_zero, List.set_cons_succ])
        refine heads_nil ?_
        refine stage_done (by kernel_rfl) ?_
        obtain ⟨ev9, fv9, el9, hl9, hge9, _, _⟩ := LX.out.log
        have hlz : ((rX3.2.1.last : Nat) : Int) = 3 := by rw [x_last]; rfl
        go_wp2_with fail
        first
          | (have WL := wlast hl9 (by rw [hlz]; decide); rw [hlz] at WL; refine WL.mono ?_; clear WL; rintro e w9 ⟨rfl, hb9⟩; have D9 : Hid (DiskIs w9 db mb tb rX3.1) := Lib.hid (hl9.disk.below hb9); have B9 : Hid (Below w.heap.size w w9) := Lib.hid (LX.out.bel.trans (hb9.mono LX.out.bel.size)))
          | (have LY := Lib.hid (LX.out.below ((Below.refl _ _).drew)); have hly := hl9.below ((Below.refl _ _).drew); have WL := wlast hly (by rw [hlz]; decide); rw [hlz] at WL; refine WL.mono ?_; clear WL; rintro e w9 ⟨rfl, hb9⟩; have D9 : Hid (DiskIs w9 db mb tb rX3.1) := Lib.hid (hly.disk.below hb9); have B9 : Hid (Below w.heap.size w w9) := Lib.hid (LY.out.bel.trans (hb9.mono LY.out.bel.size)); clear hly)
        clear hl9 hge9 hlz hb9
        go_wp2_with fail
        refine (dcrash_any db mb tb rX3.1 (.slice none 0 0) [] w9 D9.out x3.2.2.2.1 (TearsIs.nil _) (.inl rfl)).mono ?_
        rintro e w10 ⟨rfl, hd10, hk10⟩
        have D10 := Lib.hid hd10
        have B10 : Hid (Below w.heap.size w w10) := Lib.hid (B9.out.trans (hk10.below B9.out.size HO.out))
        clear hd10 hk10
        go_wp2_with fail
        refine (dboot_any db mb tb _ w10 D10.out).mono ?_
        rintro e w11 ⟨rfl, hd11, hk11⟩
        have D11 : Hid (DiskIs w11 db mb tb dX4) := Lib.hid hd11
        have B11 : Hid (Below w.heap.size w w11) := Lib.hid (B10.out.trans (hk11.below B10.out.size HO.out))
        clear hd11 hk11
        go_wp2_with fail
        have WO : Calls Tryz.prog 19 #[.pointer (some ⟨db, 0, none⟩), .int .u64 0] w11 (OpenWP db mb tb rX4 w11) := wopen_late D11.out ((x3.2.2.2.1.crash []).boot) (by have := x3.2.2.2.2; show rX3.1.steps + 1000 ≤ _; omega) 0 (by show ¬ false = true; decide) (by decide)
        refine WO.mono ?_
        clear WO
        rintro e w12 ⟨_, hk12, _, hs12⟩
        obtain ⟨L5, hL5, hb5⟩ := Option.map_eq_some_iff.1 x_end.2
        obtain ⟨lb5, ev5, fv5, el5, rfl, hl5, _⟩ := hs12 L5 hL5
        have e5 : ((rX4.2.2 : Nat) : Int) = 0 := by rw [x_end.1]; rfl
        have b5 : L5.b = 0 := congrArg Prod.fst hb5
        have n5 : L5.es.length = 2 := congrArg Prod.snd hb5
        have hlz : ((L5.last : Nat) : Int) = 2 := by unfold WalS.last; rw [b5, n5]; rfl
        have hfz : ((L5.b : Nat) : Int) + 1 = 1 := by rw [b5]; rfl
        have B12 : Hid (Below w.heap.size w w12) := Lib.hid (B11.out.trans (hk12.below B11.out.size HO.out))
        have L12 := Lib.hid hl5
        rw [e5]
        clear hk12 hs12 hL5 hb5 hl5 e5 n5
        have WL := wlast L12.out (by rw [hlz]; decide)
        rw [hlz] at WL
        have HWL := Lib.hid WL
        have HFZ := Lib.hid hfz
        have HB5 := Lib.hid b5
        clear WL hlz hfz b5
        go_wp2_with fail
        refine HWL.out.mono ?_
        rintro e w13 ⟨rfl, hb13⟩
        have L13 := Lib.hid (L12.out.below hb13)
        have B13 : Hid (Below w.heap.size w w13) := Lib.hid (B12.out.trans (hb13.mono B12.out.size))
        clear hb13
        go_wp2_with fail
        refine (wfirst L13.out (by rw [HFZ.out]; decide)).mono ?_
        rintro e w14 ⟨rfl, rfl⟩
        rw [HFZ.out]
        go_wp2_with fail
        go_ret
        exact ⟨rfl, B13.out⟩
      · simp only [List.drop_succ_cons, List.drop_zero, List.take_succ_cons, List.take_zero]
        (go_wp2_with fail; (generalize hcw : World.alloc _ _ = ca); first | (have LX := Lib.hid ((LX.out).made (n := 1) hcw (srow_x1 _))) | (have LX := Lib.hid (((LX.out.below ((Below.refl _ _).drew))).made (n := 1) hcw (srow_x1 _))) | (have LX := Lib.hid ((((LX.out.below ((Below.refl _ _).drew)).below ((Below.refl _ _).drew))).made (n := 1) hcw (srow_x1 _))); clear hcw)
        refine step_post nofun ?_
        refine stage_op 6 (by kernel_rfl) (L := #[true, true, true, true, true, true, true, true, true, true, false, false, false, false]) (by kernel_rfl) ?_
        simp only [List.drop_succ_cons, List.drop_zero, List.take_succ_cons, List.take_zero]
        (obtain ⟨P, hP⟩ := x1.1; have ee : (((syncW rX1.1 rX1.2.1).2.2 : Nat) : Int) = 0 := (by have h : (syncW rX1.1 rX1.2.1).2.2 = 0 := x_err.2.1; rw [h]; rfl); (go_wp2_with fail; first | (have WP := lx_sync LX.out hP x1.2.2.2.1; rw [ee] at WP; refine WP.mono ?_; clear WP) | (have WP := lx_sync (LX.out.below ((Below.refl _ _).drew)) hP x1.2.2.2.1; rw [ee] at WP; refine WP.mono ?_; clear WP) | (have WP := lx_sync ((LX.out.below ((Below.refl _ _).drew)).below ((Below.refl _ _).drew)) hP x1.2.2.2.1; rw [ee] at WP; refine WP.mono ?_; clear WP)); clear ee hP; rintro e cx ⟨rfl, hx⟩; have LX : Hid (WX w cx lb db mb tb xb _ rX2.1 rX2.2.1) := Lib.hid hx; clear hx; go_wp2_with fail)
        refine step_post (fun _ => (by first | exact LX.out.box | exact LX.out.box.below ((Below.refl _ _).drew))) ?_
        refine stage_op 10 (by kernel_rfl) (L := #[true, true, true, true, true, true, true, true, true, true, true, false, false, false]) (by kernel_rfl) ?_
        simp only [List.drop_succ_cons, List.drop_zero, List.take_succ_cons, List.take_zero]
        (obtain ⟨P, hP⟩ := x2.1; have ee : (((appendW rX2.1 rX2.2.1 (List.replicate 1 xE)).2.2 : Nat) : Int) = 0 := (by have h : (appendW rX2.1 rX2.2.1 (List.replicate 1 xE)).2.2 = 0 := x_err.2.2; rw [h]; rfl); (go_wp2_with fail; first | (have WP := lx_append (n := 1) LX.out (by first | exact List.mem_cons_self .. | exact List.mem_cons_of_mem _ (List.mem_cons_self ..)) (by decide) hP x2.2.2.2.1 (by have := x2.2.2.2.2; omega); rw [ee] at WP; refine WP.mono ?_; clear WP) | (have WP := lx_append (n := 1) (LX.out.below ((Below.refl _ _).drew)) (by first | exact List.mem_cons_self .. | exact List.mem_cons_of_mem _ (List.mem_cons_self ..)) (by decide) hP x2.2.2.2.1 (by have := x2.2.2.2.2; omega); rw [ee] at WP; refine WP.mono ?_; clear WP) | (have WP := lx_append (n := 1) ((LX.out.below ((Below.refl _ _).drew)).below ((Below.refl _ _).drew)) (by first | exact List.mem_cons_self .. | exact List.mem_cons_of_mem _ (List.mem_cons_self ..)) (by decide) hP x2.2.2.2.1 (by have := x2.2.2.2.2; omega); rw [ee] at WP; refine WP.mono ?_; clear WP)); clear ee hP; rintro e cx ⟨rfl, hx⟩; have LX : Hid (WX w cx lb db mb tb xb _ rX3.1 rX3.2.1) := Lib.hid hx; clear hx; go_wp2_with fail)
        refine step_post nofun ?_
        refine stage_heads [11, 12, 13] (by kernel_rfl) (L := #[true, true, true, true, true, true, true, true, true, true, true, true, true, true]) (by kernel_rfl) (f' := 0) rfl (fun _ _ _ _ h => h) (fun w o h => h.below ((Below.refl _ _).alloc (Nat.le_refl _) o)) (.inl (by kernel_rfl)) ?_
        simp only [List.flatMap_cons, List.flatMap_nil, List.drop_succ_cons, List.drop_zero, List.take_succ_cons, List.take_zero, List.cons_append, List.nil_append, List.append_nil]
        iterate 3 (refine heads_pure _ (by rfl) (fun w' => by go_simp; try with_reducible rfl) ?_; simp only [Act.put, List.setIfInBounds_toArray, List.set_cons_zero, List.set_cons_succ])
        refine heads_nil ?_
        refine stage_done (by kernel_rfl) ?_
        obtain ⟨ev9, fv9, el9, hl9, hge9, _, _⟩ := LX.out.log
        have hlz : ((rX3.2.1.last : Nat) : Int) = 3 := by rw [x_last]; rfl
        go_wp2_with fail
        first
          | (have WL := wlast hl9 (by rw [hlz]; decide); rw [hlz] at WL; refine WL.mono ?_; clear WL; rintro e w9 ⟨rfl, hb9⟩; have D9 : Hid (DiskIs w9 db mb tb rX3.1) := Lib.hid (hl9.disk.below hb9); have B9 : Hid (Below w.heap.size w w9) := Lib.hid (LX.out.bel.trans (hb9.mono LX.out.bel.size)))
          | (have LY := Lib.hid (LX.out.below ((Below.refl _ _).drew)); have hly := hl9.below ((Below.refl _ _).drew); have WL := wlast hly (by rw [hlz]; decide); rw [hlz] at WL; refine WL.mono ?_; clear WL; rintro e w9 ⟨rfl, hb9⟩; have D9 : Hid (DiskIs w9 db mb tb rX3.1) := Lib.hid (hly.disk.below hb9); have B9 : Hid (Below w.heap.size w w9) := Lib.hid (LY.out.bel.trans (hb9.mono LY.out.bel.size)); clear hly)
        clear hl9 hge9 hlz hb9
        go_wp2_with fail
        refine (dcrash_any db mb tb rX3.1 (.slice none 0 0) [] w9 D9.out x3.2.2.2.1 (TearsIs.nil _) (.inl rfl)).mono ?_
        rintro e w10 ⟨rfl, hd10, hk10⟩
        have D10 := Lib.hid hd10
        have B10 : Hid (Below w.heap.size w w10) := Lib.hid (B9.out.trans (hk10.below B9.out.size HO.out))
        clear hd10 hk10
        go_wp2_with fail
        refine (dboot_any db mb tb _ w10 D10.out).mono ?_
        rintro e w11 ⟨rfl, hd11, hk11⟩
        have D11 : Hid (DiskIs w11 db mb tb dX4) := Lib.hid hd11
        have B11 : Hid (Below w.heap.size w w11) := Lib.hid (B10.out.trans (hk11.below B10.out.size HO.out))
        clear hd11 hk11
        go_wp2_with fail
        have WO : Calls Tryz.prog 19 #[.pointer (some ⟨db, 0, none⟩), .int .u64 0] w11 (OpenWP db mb tb rX4 w11) := wopen_late D11.out ((x3.2.2.2.1.crash []).boot) (by have := x3.2.2.2.2; show rX3.1.steps + 1000 ≤ _; omega) 0 (by show ¬ false = true; decide) (by decide)
        refine WO.mono ?_
        clear WO
        rintro e w12 ⟨_, hk12, _, hs12⟩
        obtain ⟨L5, hL5, hb5⟩ := Option.map_eq_some_iff.1 x_end.2
        obtain ⟨lb5, ev5, fv5, el5, rfl, hl5, _⟩ := hs12 L5 hL5
        have e5 : ((rX4.2.2 : Nat) : Int) = 0 := by rw [x_end.1]; rfl
        have b5 : L5.b = 0 := congrArg Prod.fst hb5
        have n5 : L5.es.length = 2 := congrArg Prod.snd hb5
        have hlz : ((L5.last : Nat) : Int) = 2 := by unfold WalS.last; rw [b5, n5]; rfl
        have hfz : ((L5.b : Nat) : Int) + 1 = 1 := by rw [b5]; rfl
        have B12 : Hid (Below w.heap.size w w12) := Lib.hid (B11.out.trans (hk12.below B11.out.size HO.out))
        have L12 := Lib.hid hl5
        rw [e5]
        clear hk12 hs12 hL5 hb5 hl5 e5 n5
        have WL := wlast L12.out (by rw [hlz]; decide)
        rw [hlz] at WL
        have HWL := Lib.hid WL
        have HFZ := Lib.hid hfz
        have HB5 := Lib.hid b5
        clear WL hlz hfz b5
        go_wp2_with fail
        refine HWL.out.mono ?_
        rintro e w13 ⟨rfl, hb13⟩
        have L13 := Lib.hid (L12.out.below hb13)
        have B13 : Hid (Below w.heap.size w w13) := Lib.hid (B12.out.trans (hb13.mono B12.out.size))
        clear hb13
        go_wp2_with fail
        refine (wfirst L13.out (by rw [HFZ.out]; decide)).mono ?_
        rintro e w14 ⟨rfl, rfl⟩
        rw [HFZ.out]
        go_wp2_with fail
        go_ret
        exact ⟨rfl, B13.out⟩
    · simp only [List.drop_succ_cons, List.drop_zero, List.take_succ_cons, List.take_zero]
      (go_wp2_with fail; (generalize hcw : World.alloc _ _ = ca); first | (have LX := Lib.hid ((LX.out).made (n := 1) hcw (srow_x1 _))) | (have LX := Lib.hid (((LX.out.below ((Below.refl _ _).drew))).made (n := 1) hcw (srow_x1 _))) | (have LX := Lib.hid ((((LX.out.below ((Below.refl _ _).drew)).below ((Below.refl _ _).drew))).made (n := 1) hcw (srow_x1 _))); clear hcw)
      refine step_post nofun ?_
      refine stage_op 4 (by kernel_rfl) (L := #[true, true, true, true, true, true, false, true, true, true, false, false, false, false]) (by kernel_rfl) ?_
      simp only [List.drop_succ_cons, List.drop_zero, List.take_succ_cons, List.take_zero]
      (obtain ⟨P, hP⟩ := (⟨_, x_inv⟩ : ∃ P, WInv dX lX P); have ee : (((appendW dX lX (List.replicate 2 xE)).2.2 : Nat) : Int) = 0 := (by have h : (appendW dX lX (List.replicate 2 xE)).2.2 = 0 := x_err.1; rw [h]; rfl); (go_wp2_with fail; first | (have WP := lx_append (n := 2) LX.out (by first | exact List.mem_cons_self .. | exact List.mem_cons_of_mem _ (List.mem_cons_self ..)) (by decide) hP x_good (by decide); rw [ee] at WP; refine WP.mono ?_; clear WP) | (have WP := lx_append (n := 2) (LX.out.below ((Below.refl _ _).drew)) (by first | exact List.mem_cons_self .. | exact List.mem_cons_of_mem _ (List.mem_cons_self ..)) (by decide) hP x_good (by decide); rw [ee] at WP; refine WP.mono ?_; clear WP) | (have WP := lx_append (n := 2) ((LX.out.below ((Below.refl _ _).drew)).below ((Below.refl _ _).drew)) (by first | exact List.mem_cons_self .. | exact List.mem_cons_of_mem _ (List.mem_cons_self ..)) (by decide) hP x_good (by decide); rw [ee] at WP; refine WP.mono ?_; clear WP)); clear ee hP; rintro e cx ⟨rfl, hx⟩; have LX : Hid (WX w cx lb db mb tb xb _ rX1.1 rX1.2.1) := Lib.hid hx; clear hx; go_wp2_with fail)
      refine step_post (fun _ => (by first | exact LX.out.box | exact LX.out.box.below ((Below.refl _ _).drew))) ?_
      refine stage_op 6 (by kernel_rfl) (L := #[true, true, true, true, true, true, true, true, true, true, false, false, false, false]) (by kernel_rfl) ?_
      simp only [List.drop_succ_cons, List.drop_zero, List.take_succ_cons, List.take_zero]
      (obtain ⟨P, hP⟩ := x1.1; have ee : (((syncW rX1.1 rX1.2.1).2.2 : Nat) : Int) = 0 := (by have h : (syncW rX1.1 rX1.2.1).2.2 = 0 := x_err.2.1; rw [h]; rfl); (go_wp2_with fail; first | (have WP := lx_sync LX.out hP x1.2.2.2.1; rw [ee] at WP; refine WP.mono ?_; clear WP) | (have WP := lx_sync (LX.out.below ((Below.refl _ _).drew)) hP x1.2.2.2.1; rw [ee] at WP; refine WP.mono ?_; clear WP) | (have WP := lx_sync ((LX.out.below ((Below.refl _ _).drew)).below ((Below.refl _ _).drew)) hP x1.2.2.2.1; rw [ee] at WP; refine WP.mono ?_; clear WP)); clear ee hP; rintro e cx ⟨rfl, hx⟩; have LX : Hid (WX w cx lb db mb tb xb _ rX2.1 rX2.2.1) := Lib.hid hx; clear hx; go_wp2_with fail)
      refine step_post (fun _ => (by first | exact LX.out.box | exact LX.out.box.below ((Below.refl _ _).drew))) ?_
      refine stage_op 10 (by kernel_rfl) (L := #[true, true, true, true, true, true, true, true, true, true, true, false, false, false]) (by kernel_rfl) ?_
      simp only [List.drop_succ_cons, List.drop_zero, List.take_succ_cons, List.take_zero]
      (obtain ⟨P, hP⟩ := x2.1; have ee : (((appendW rX2.1 rX2.2.1 (List.replicate 1 xE)).2.2 : Nat) : Int) = 0 := (by have h : (appendW rX2.1 rX2.2.1 (List.replicate 1 xE)).2.2 = 0 := x_err.2.2; rw [h]; rfl); (go_wp2_with fail; first | (have WP := lx_append (n := 1) LX.out (by first | exact List.mem_cons_self .. | exact List.mem_cons_of_mem _ (List.mem_cons_self ..)) (by decide) hP x2.2.2.2.1 (by have := x2.2.2.2.2; omega); rw [ee] at WP; refine WP.mono ?_; clear WP) | (have WP := lx_append (n := 1) (LX.out.below ((Below.refl _ _).drew)) (by first | exact List.mem_cons_self .. | exact List.mem_cons_of_mem _ (List.mem_cons_self ..)) (by decide) hP x2.2.2.2.1 (by have := x2.2.2.2.2; omega); rw [ee] at WP; refine WP.mono ?_; clear WP) | (have WP := lx_append (n := 1) ((LX.out.below ((Below.refl _ _).drew)).below ((Below.refl _ _).drew)) (by first | exact List.mem_cons_self .. | exact List.mem_cons_of_mem _ (List.mem_cons_self ..)) (by decide) hP x2.2.2.2.1 (by have := x2.2.2.2.2; omega); rw [ee] at WP; refine WP.mono ?_; clear WP)); clear ee hP; rintro e cx ⟨rfl, hx⟩; have LX : Hid (WX w cx lb db mb tb xb _ rX3.1 rX3.2.1) := Lib.hid hx; clear hx; go_wp2_with fail)
      refine step_post nofun ?_
      refine stage_heads [11, 12, 13] (by kernel_rfl) (L := #[true, true, true, true, true, true, true, true, true, true, true, true, true, true]) (by kernel_rfl) (f' := 0) rfl (fun _ _ _ _ h => h) (fun w o h => h.below ((Below.refl _ _).alloc (Nat.le_refl _) o)) (.inl (by kernel_rfl)) ?_
      simp only [List.flatMap_cons, List.flatMap_nil, List.drop_succ_cons, List.drop_zero, List.take_succ_cons, List.take_zero, List.cons_append, List.nil_append, List.append_nil]
      iterate 3 (refine heads_pure _ (by rfl) (fun w' => by go_simp; try with_reducible rfl) ?_; simp only [Act.put, List.setIfInBounds_toArray, List.set_cons_zero, List.set_cons_succ])
      refine heads_nil ?_
      refine stage_done (by kernel_rfl) ?_
      obtain ⟨ev9, fv9, el9, hl9, hge9, _, _⟩ := LX.out.log
      have hlz : ((rX3.2.1.last : Nat) : Int) = 3 := by rw [x_last]; rfl
      go_wp2_with fail
      first
        | (have WL := wlast hl9 (by rw [hlz]; decide); rw [hlz] at WL; refine WL.mono ?_; clear WL; rintro e w9 ⟨rfl, hb9⟩; have D9 : Hid (DiskIs w9 db mb tb rX3.1) := Lib.hid (hl9.disk.below hb9); have B9 : Hid (Below w.heap.size w w9) := Lib.hid (LX.out.bel.trans (hb9.mono LX.out.bel.size)))
        | (have LY := Lib.hid (LX.out.below ((Below.refl _ _).drew)); have hly := hl9.below ((Below.refl _ _).drew); have WL := wlast hly (by rw [hlz]; decide); rw [hlz] at WL; refine WL.mono ?_; clear WL; rintro e w9 ⟨rfl, hb9⟩; have D9 : Hid (DiskIs w9 db mb tb rX3.1) := Lib.hid (hly.disk.below hb9); have B9 : Hid (Below w.heap.size w w9) := Lib.hid (LY.out.bel.trans (hb9.mono LY.out.bel.size)); clear hly)
      clear hl9 hge9 hlz hb9
      go_wp2_with fail
      refine (dcrash_any db mb tb rX3.1 (.slice none 0 0) [] w9 D9.out x3.2.2.2.1 (TearsIs.nil _) (.inl rfl)).mono ?_
      rintro e w10 ⟨rfl, hd10, hk10⟩
      have D10 := Lib.hid hd10
      have B10 : Hid (Below w.heap.size w w10) := Lib.hid (B9.out.trans (hk10.below B9.out.size HO.out))
      clear hd10 hk10
      go_wp2_with fail
      refine (dboot_any db mb tb _ w10 D10.out).mono ?_
      rintro e w11 ⟨rfl, hd11, hk11⟩
      have D11 : Hid (DiskIs w11 db mb tb dX4) := Lib.hid hd11
      have B11 : Hid (Below w.heap.size w w11) := Lib.hid (B10.out.trans (hk11.below B10.out.size HO.out))
      clear hd11 hk11
      go_wp2_with fail
      have WO : Calls Tryz.prog 19 #[.pointer (some ⟨db, 0, none⟩), .int .u64 0] w11 (OpenWP db mb tb rX4 w11) := wopen_late D11.out ((x3.2.2.2.1.crash []).boot) (by have := x3.2.2.2.2; show rX3.1.steps + 1000 ≤ _; omega) 0 (by show ¬ false = true; decide) (by decide)
      refine WO.mono ?_
      clear WO
      rintro e w12 ⟨_, hk12, _, hs12⟩
      obtain ⟨L5, hL5, hb5⟩ := Option.map_eq_some_iff.1 x_end.2
      obtain ⟨lb5, ev5, fv5, el5, rfl, hl5, _⟩ := hs12 L5 hL5
      have e5 : ((rX4.2.2 : Nat) : Int) = 0 := by rw [x_end.1]; rfl
      have b5 : L5.b = 0 := congrArg Prod.fst hb5
      have n5 : L5.es.length = 2 := congrArg Prod.snd hb5
      have hlz : ((L5.last : Nat) : Int) = 2 := by unfold WalS.last; rw [b5, n5]; rfl
      have hfz : ((L5.b : Nat) : Int) + 1 = 1 := by rw [b5]; rfl
      have B12 : Hid (Below w.heap.size w w12) := Lib.hid (B11.out.trans (hk12.below B11.out.size HO.out))
      have L12 := Lib.hid hl5
      rw [e5]
      clear hk12 hs12 hL5 hb5 hl5 e5 n5
      have WL := wlast L12.out (by rw [hlz]; decide)
      rw [hlz] at WL
      have HWL := Lib.hid WL
      have HFZ := Lib.hid hfz
      have HB5 := Lib.hid b5
      clear WL hlz hfz b5
      go_wp2_with fail
      refine HWL.out.mono ?_
      rintro e w13 ⟨rfl, hb13⟩
      have L13 := Lib.hid (L12.out.below hb13)
      have B13 : Hid (Below w.heap.size w w13) := Lib.hid (B12.out.trans (hb13.mono B12.out.size))
      clear hb13
      go_wp2_with fail
      refine (wfirst L13.out (by rw [HFZ.out]; decide)).mono ?_
      rintro e w14 ⟨rfl, rfl⟩
      rw [HFZ.out]
      go_wp2_with fail
      go_ret
      exact ⟨rfl, B13.out⟩
  · simp only [List.drop_succ_cons, List.drop_zero, List.take_succ_cons, List.take_zero]
    (go_wp2_with fail; (generalize hcw : World.alloc _ _ = ca); first | (have LX := Lib.hid ((LX.out).made (n := 1) hcw (srow_x1 _))) | (have LX := Lib.hid (((LX.out.below ((Below.refl _ _).drew))).made (n := 1) hcw (srow_x1 _))) | (have LX := Lib.hid ((((LX.out.below ((Below.refl _ _).drew)).below ((Below.refl _ _).drew))).made (n := 1) hcw (srow_x1 _))); clear hcw)
    refine step_post nofun ?_
    refine stage_op 3 (by kernel_rfl) (L := #[true, true, true, true, false, true, false, true, true, true, false, false, false, false]) (by kernel_rfl) ?_
    simp only [List.drop_succ_cons, List.drop_zero, List.take_succ_cons, List.take_zero]
    (go_wp2_with fail; (generalize hcw : World.alloc _ _ = ca); first | (have LX := Lib.hid ((LX.out).made (n := 2) hcw (srow_x2 _))) | (have LX := Lib.hid (((LX.out.below ((Below.refl _ _).drew))).made (n := 2) hcw (srow_x2 _))) | (have LX := Lib.hid ((((LX.out.below ((Below.refl _ _).drew)).below ((Below.refl _ _).drew))).made (n := 2) hcw (srow_x2 _))); clear hcw)
    refine step_post nofun ?_
    refine stage_op 4 (by kernel_rfl) (L := #[true, true, true, true, true, true, false, true, true, true, false, false, false, false]) (by kernel_rfl) ?_
    simp only [List.drop_succ_cons, List.drop_zero, List.take_succ_cons, List.take_zero]
    (obtain ⟨P, hP⟩ := (⟨_, x_inv⟩ : ∃ P, WInv dX lX P); have ee : (((appendW dX lX (List.replicate 2 xE)).2.2 : Nat) : Int) = 0 := (by have h : (appendW dX lX (List.replicate 2 xE)).2.2 = 0 := x_err.1; rw [h]; rfl); (go_wp2_with fail; first | (have WP := lx_append (n := 2) LX.out (by first | exact List.mem_cons_self .. | exact List.mem_cons_of_mem _ (List.mem_cons_self ..)) (by decide) hP x_good (by decide); rw [ee] at WP; refine WP.mono ?_; clear WP) | (have WP := lx_append (n := 2) (LX.out.below ((Below.refl _ _).drew)) (by first | exact List.mem_cons_self .. | exact List.mem_cons_of_mem _ (List.mem_cons_self ..)) (by decide) hP x_good (by decide); rw [ee] at WP; refine WP.mono ?_; clear WP) | (have WP := lx_append (n := 2) ((LX.out.below ((Below.refl _ _).drew)).below ((Below.refl _ _).drew)) (by first | exact List.mem_cons_self .. | exact List.mem_cons_of_mem _ (List.mem_cons_self ..)) (by decide) hP x_good (by decide); rw [ee] at WP; refine WP.mono ?_; clear WP)); clear ee hP; rintro e cx ⟨rfl, hx⟩; have LX : Hid (WX w cx lb db mb tb xb _ rX1.1 rX1.2.1) := Lib.hid hx; clear hx; go_wp2_with fail)
    refine step_post (fun _ => (by first | exact LX.out.box | exact LX.out.box.below ((Below.refl _ _).drew))) ?_
    refine stage_op 6 (by kernel_rfl) (L := #[true, true, true, true, true, true, true, true, true, true, false, false, false, false]) (by kernel_rfl) ?_
    simp only [List.drop_succ_cons, List.drop_zero, List.take_succ_cons, List.take_zero]
    (obtain ⟨P, hP⟩ := x1.1; have ee : (((syncW rX1.1 rX1.2.1).2.2 : Nat) : Int) = 0 := (by have h : (syncW rX1.1 rX1.2.1).2.2 = 0 := x_err.2.1; rw [h]; rfl); (go_wp2_with fail; first | (have WP := lx_sync LX.out hP x1.2.2.2.1; rw [ee] at WP; refine WP.mono ?_; clear WP) | (have WP := lx_sync (LX.out.below ((Below.refl _ _).drew)) hP x1.2.2.2.1; rw [ee] at WP; refine WP.mono ?_; clear WP) | (have WP := lx_sync ((LX.out.below ((Below.refl _ _).drew)).below ((Below.refl _ _).drew)) hP x1.2.2.2.1; rw [ee] at WP; refine WP.mono ?_; clear WP)); clear ee hP; rintro e cx ⟨rfl, hx⟩; have LX : Hid (WX w cx lb db mb tb xb _ rX2.1 rX2.2.1) := Lib.hid hx; clear hx; go_wp2_with fail)
    refine step_post (fun _ => (by first | exact LX.out.box | exact LX.out.box.below ((Below.refl _ _).drew))) ?_
    refine stage_op 10 (by kernel_rfl) (L := #[true, true, true, true, true, true, true, true, true, true, true, false, false, false]) (by kernel_rfl) ?_
    simp only [List.drop_succ_cons, List.drop_zero, List.take_succ_cons, List.take_zero]
    (obtain ⟨P, hP⟩ := x2.1; have ee : (((appendW rX2.1 rX2.2.1 (List.replicate 1 xE)).2.2 : Nat) : Int) = 0 := (by have h : (appendW rX2.1 rX2.2.1 (List.replicate 1 xE)).2.2 = 0 := x_err.2.2; rw [h]; rfl); (go_wp2_with fail; first | (have WP := lx_append (n := 1) LX.out (by first | exact List.mem_cons_self .. | exact List.mem_cons_of_mem _ (List.mem_cons_self ..)) (by decide) hP x2.2.2.2.1 (by have := x2.2.2.2.2; omega); rw [ee] at WP; refine WP.mono ?_; clear WP) | (have WP := lx_append (n := 1) (LX.out.below ((Below.refl _ _).drew)) (by first | exact List.mem_cons_self .. | exact List.mem_cons_of_mem _ (List.mem_cons_self ..)) (by decide) hP x2.2.2.2.1 (by have := x2.2.2.2.2; omega); rw [ee] at WP; refine WP.mono ?_; clear WP) | (have WP := lx_append (n := 1) ((LX.out.below ((Below.refl _ _).drew)).below ((Below.refl _ _).drew)) (by first | exact List.mem_cons_self .. | exact List.mem_cons_of_mem _ (List.mem_cons_self ..)) (by decide) hP x2.2.2.2.1 (by have := x2.2.2.2.2; omega); rw [ee] at WP; refine WP.mono ?_; clear WP)); clear ee hP; rintro e cx ⟨rfl, hx⟩; have LX : Hid (WX w cx lb db mb tb xb _ rX3.1 rX3.2.1) := Lib.hid hx; clear hx; go_wp2_with fail)
    refine step_post nofun ?_
    refine stage_heads [11, 12, 13] (by kernel_rfl) (L := #[true, true, true, true, true, true, true, true, true, true, true, true, true, true]) (by kernel_rfl) (f' := 0) rfl (fun _ _ _ _ h => h) (fun w o h => h.below ((Below.refl _ _).alloc (Nat.le_refl _) o)) (.inl (by kernel_rfl)) ?_
    simp only [List.flatMap_cons, List.flatMap_nil, List.drop_succ_cons, List.drop_zero, List.take_succ_cons, List.take_zero, List.cons_append, List.nil_append, List.append_nil]
    iterate 3 (refine heads_pure _ (by rfl) (fun w' => by go_simp; try with_reducible rfl) ?_; simp only [Act.put, List.setIfInBounds_toArray, List.set_cons_zero, List.set_cons_succ])
    refine heads_nil ?_
    refine stage_done (by kernel_rfl) ?_
    obtain ⟨ev9, fv9, el9, hl9, hge9, _, _⟩ := LX.out.log
    have hlz : ((rX3.2.1.last : Nat) : Int) = 3 := by rw [x_last]; rfl
    go_wp2_with fail
    first
      | (have WL := wlast hl9 (by rw [hlz]; decide); rw [hlz] at WL; refine WL.mono ?_; clear WL; rintro e w9 ⟨rfl, hb9⟩; have D9 : Hid (DiskIs w9 db mb tb rX3.1) := Lib.hid (hl9.disk.below hb9); have B9 : Hid (Below w.heap.size w w9) := Lib.hid (LX.out.bel.trans (hb9.mono LX.out.bel.size)))
      | (have LY := Lib.hid (LX.out.below ((Below.refl _ _).drew)); have hly := hl9.below ((Below.refl _ _).drew); have WL := wlast hly (by rw [hlz]; decide); rw [hlz] at WL; refine WL.mono ?_; clear WL; rintro e w9 ⟨rfl, hb9⟩; have D9 : Hid (DiskIs w9 db mb tb rX3.1) := Lib.hid (hly.disk.below hb9); have B9 : Hid (Below w.heap.size w w9) := Lib.hid (LY.out.bel.trans (hb9.mono LY.out.bel.size)); clear hly)
    clear hl9 hge9 hlz hb9
    go_wp2_with fail
    refine (dcrash_any db mb tb rX3.1 (.slice none 0 0) [] w9 D9.out x3.2.2.2.1 (TearsIs.nil _) (.inl rfl)).mono ?_
    rintro e w10 ⟨rfl, hd10, hk10⟩
    have D10 := Lib.hid hd10
    have B10 : Hid (Below w.heap.size w w10) := Lib.hid (B9.out.trans (hk10.below B9.out.size HO.out))
    clear hd10 hk10
    go_wp2_with fail
    refine (dboot_any db mb tb _ w10 D10.out).mono ?_
    rintro e w11 ⟨rfl, hd11, hk11⟩
    have D11 : Hid (DiskIs w11 db mb tb dX4) := Lib.hid hd11
    have B11 : Hid (Below w.heap.size w w11) := Lib.hid (B10.out.trans (hk11.below B10.out.size HO.out))
    clear hd11 hk11
    go_wp2_with fail
    have WO : Calls Tryz.prog 19 #[.pointer (some ⟨db, 0, none⟩), .int .u64 0] w11 (OpenWP db mb tb rX4 w11) := wopen_late D11.out ((x3.2.2.2.1.crash []).boot) (by have := x3.2.2.2.2; show rX3.1.steps + 1000 ≤ _; omega) 0 (by show ¬ false = true; decide) (by decide)
    refine WO.mono ?_
    clear WO
    rintro e w12 ⟨_, hk12, _, hs12⟩
    obtain ⟨L5, hL5, hb5⟩ := Option.map_eq_some_iff.1 x_end.2
    obtain ⟨lb5, ev5, fv5, el5, rfl, hl5, _⟩ := hs12 L5 hL5
    have e5 : ((rX4.2.2 : Nat) : Int) = 0 := by rw [x_end.1]; rfl
    have b5 : L5.b = 0 := congrArg Prod.fst hb5
    have n5 : L5.es.length = 2 := congrArg Prod.snd hb5
    have hlz : ((L5.last : Nat) : Int) = 2 := by unfold WalS.last; rw [b5, n5]; rfl
    have hfz : ((L5.b : Nat) : Int) + 1 = 1 := by rw [b5]; rfl
    have B12 : Hid (Below w.heap.size w w12) := Lib.hid (B11.out.trans (hk12.below B11.out.size HO.out))
    have L12 := Lib.hid hl5
    rw [e5]
    clear hk12 hs12 hL5 hb5 hl5 e5 n5
    have WL := wlast L12.out (by rw [hlz]; decide)
    rw [hlz] at WL
    have HWL := Lib.hid WL
    have HFZ := Lib.hid hfz
    have HB5 := Lib.hid b5
    clear WL hlz hfz b5
    go_wp2_with fail
    refine HWL.out.mono ?_
    rintro e w13 ⟨rfl, hb13⟩
    have L13 := Lib.hid (L12.out.below hb13)
    have B13 : Hid (Below w.heap.size w w13) := Lib.hid (B12.out.trans (hb13.mono B12.out.size))
    clear hb13
    go_wp2_with fail
    refine (wfirst L13.out (by rw [HFZ.out]; decide)).mono ?_
    rintro e w14 ⟨rfl, rfl⟩
    rw [HFZ.out]
    go_wp2_with fail
    go_ret
    exact ⟨rfl, B13.out⟩

end Go.Proofs.YtjdglpcnkiioeaaGreat
