/- The law ServerNobody: its argument, and what Light tells; no conditions. -/
import Derived.Test.YtkbpafbbogjifaaGreatBb
import Derived.Test.YtkbpafbbogjifaaGreatBa
import Derived.Test.YtkbpafbbogjifaaGreatProg
import Derived.Test.YtkbpafbbogjifaaGreatBLo
import Derived.Maps.OwnSet
namespace Go.Proofs.YtkbpafbbogjifaaGreat
open Go.ChangeShapes Go.WideShapes Go.ChangeAt Go.RowKit Go.Deep Go.Proofs.Own

theorem own : ownKnob Tryz.prog.godebug = none := by kernel_rfl
/-- v: a slice of rows of sz cells each. -/
def SRow (w : World) (sz : Nat) (v : Value) (rs : List (List Value)) : Prop :=
  ∃ a c, v = .slice a rs.length c ∧ rs.length ≤ c ∧ ∀ j (h : j < rs.length), ∃ b o, a = some ⟨b, o, none⟩ ∧ b < w.heap.size ∧ ∀ i x, rs[j][i]? = some x → w.cell? ⟨b, o + j * sz + i, none⟩ = some x
theorem SRow.below {n0 : Nat} {w w' : World} {sz : Nat} {v : Value} {rs : List (List Value)} (h : SRow w sz v rs) (hn : w.heap.size ≤ n0) (hb : Below n0 w w') (hs : w.heap.size ≤ w'.heap.size) : SRow w' sz v rs := by
  obtain ⟨a, c, rfl, hl, hc⟩ := h
  refine ⟨a, c, rfl, hl, fun j hj => ?_⟩
  obtain ⟨b, o, rfl, h0, h1⟩ := hc j hj
  refine ⟨b, o, rfl, Nat.lt_of_lt_of_le h0 hs, fun i x hx => ?_⟩
  rw [World.cell?_of_block (w' := w') (w := w) (a := ⟨b, o + j * sz + i, none⟩) (hb.block b (by omega))]
  exact h1 i x hx
theorem SRow.nil (w : World) (sz : Nat) : SRow w sz (.slice none 0 0) [] := ⟨none, 0, rfl, Nat.le_refl _, fun j h => absurd h (Nat.not_lt_zero j)⟩
theorem SRow.shape {w : World} {sz : Nat} {v : Value} {rs : List (List Value)} (h : SRow w sz v rs) : ∃ a c, v = .slice a rs.length c ∧ rs.length ≤ c := let ⟨a, c, e, hl, _⟩ := h; ⟨a, c, e, hl⟩
theorem SRow.at {w : World} {sz : Nat} {a : Option Addr} {n c : Nat} {rs : List (List Value)} (h : SRow w sz (.slice a n c) rs) {j : Nat} (hj : j < rs.length) : ∃ b o, a = some ⟨b, o, none⟩ ∧ b < w.heap.size ∧ ∀ i x, rs[j][i]? = some x → w.cell? ⟨b, o + j * sz + i, none⟩ = some x := by
  obtain ⟨a', c', e, _, hc⟩ := h
  cases e
  exact hc j hj
section
variable {H : Type} {enc : TypeId × Value → H} {W : World}
/-- A slice of rows of sz cells, each of which is the value of some r. -/
theorem open_rows {α : Type} {val : α → List Value} {Ok : α → Prop} {t e : TypeId} {sz fuel : Nat} {v : Value} {x : DataW H × List MemPlace} (ht : Tryz.prog.underlying t = some (.slice e)) (hC : Tryz.prog.cellsOf e = sz) (hz : 0 < sz)
    (hel : ∀ n cs y, DataW.trod enc Tryz.prog W 0 (fun _ => true) true n e cs = some y → ∃ r : α, cs = val r ∧ Ok r)
    (hf : DataW.trod enc Tryz.prog W 0 (fun _ => true) true fuel t [v] = some x) : ∃ rs : List α, SRow W sz v (rs.map val) ∧ (∀ r ∈ rs, Ok r) ∧ rs.length ≤ maxLen := by
  rcases open_slice ht hf with ⟨hcs, _⟩ | ⟨a, len, cap, m, n, D, Pl, hcs, _, hl, hcm, hm, _, hi⟩
  · obtain rfl : v = .slice none 0 0 := by simpa using hcs
    exact ⟨[], SRow.nil W sz, nofun, Nat.zero_le _⟩
  · obtain rfl : v = .slice (some a) len cap := by simpa using hcs
    have hmc : m = cap := by simpa using hm
    subst hmc
    rw [hC] at hi
    have build : ∀ k, k ≤ len → ∃ rs : List α, rs.length = k ∧ (∀ j (h : j < rs.length) i x, (val rs[j])[i]? = some x → W.cell? (a.add (j * sz + i)) = some x) ∧ ∀ r ∈ rs, (val r).length = sz ∧ Ok r := by
      intro k
      induction k with
      | zero => exact fun _ => ⟨[], rfl, fun j h => absurd h (Nat.not_lt_zero j), nofun⟩
      | succ k ih =>
        intro hk
        obtain ⟨rs, h1, h2, h3⟩ := ih (by omega)
        obtain ⟨cs', hc, htr⟩ := hi k (by omega)
        obtain ⟨r, rfl, hok⟩ := hel _ _ _ htr
        obtain ⟨_, hcl, hat⟩ := World.cells?_some hc
        refine ⟨rs ++ [r], by simp [h1], fun j hj i x hx => ?_, fun q hq => ?_⟩
        · by_cases hjk : j < rs.length
          · rw [List.getElem_append_left hjk] at hx
            exact h2 j hjk i x hx
          · obtain rfl : j = rs.length := by rw [List.length_append, List.length_singleton] at hj; omega
            have hx' : (val r)[i]? = some x := by simpa using hx
            have hi' : i < sz := by have := (List.getElem?_eq_some_iff.1 hx').1; omega
            rw [h1, ← Go.Deep.add_add, hat i hi', hx']
        · rcases List.mem_append.1 hq with hq | hq
          · exact h3 q hq
          · obtain rfl := List.mem_singleton.1 hq
            exact ⟨hcl, hok⟩
    obtain ⟨rs, h1, h2, h3⟩ := build len (Nat.le_refl _)
    refine ⟨rs, ⟨some a, m, by rw [List.length_map, h1], by rw [List.length_map, h1]; exact hl, fun j hj => ?_⟩, fun r hr => (h3 r hr).2, by omega⟩
    rw [List.length_map] at hj
    have hlen := (h3 rs[j] (List.getElem_mem hj)).1
    have h0 : (0 : Nat) < rs.length := by omega
    have hl0 := (h3 rs[0] (List.getElem_mem h0)).1
    have hc0 := h2 0 h0 0 ((val rs[0])[0]'(by omega)) (List.getElem?_eq_getElem _)
    rw [Nat.zero_mul, Nat.zero_add] at hc0
    have ha := spot_none hc0
    refine ⟨a.block, a.off, congrArg some ha, World.block_lt_of_cell? W (a.add 0) hc0, fun i x hx => ?_⟩
    rw [Nat.add_assoc, ← addr_add a a.block a.off _ ha]
    exact h2 j hj i x (by simpa using hx)
end
/-- An entry: term, kind, its data's slice. -/
structure EnR where
  t : Int
  k : Int
  da : Option Addr
  dn : Nat
  dc : Nat
def enV (e : EnR) : List Value := [.int .u64 e.t, .int .i64 e.k, .slice e.da e.dn e.dc]
/-- A call: its cells. -/
structure ROp where
  k : Int
  n : Int
  nw : Int
  id : Int
  fo2 : Int
  mq : Int
  mf : Int
  mt : Int
  tm : Int
  ix : Int
  lt : Int
  cm : Int
  rd : Int
  ok : Bool
  fo : Bool
  eva : Option Addr
  evn : Nat
  evc : Nat
  si : Int
  st : Int
  mva : Option Addr
  mvn : Nat
  mvc : Nat
  sva : Option Addr
  svn : Nat
  svc : Nat
  lva : Option Addr
  lvn : Nat
  lvc : Nat
  dva : Option Addr
  dvn : Nat
  dvc : Nat
  tva : Option Addr
  tvn : Nat
  tvc : Nat
def msV (r : ROp) : List Value := [.int .i64 r.mq, .int .i64 r.mf, .int .i64 r.mt, .int .u64 r.tm, .int .u64 r.ix, .int .u64 r.lt, .int .u64 r.cm, .int .u64 r.rd, .bool r.ok, .bool r.fo, .slice r.eva r.evn r.evc, .int .u64 r.si, .int .u64 r.st, .slice r.mva r.mvn r.mvc, .slice r.sva r.svn r.svc]
def ropV (r : ROp) : List Value := [.int .i64 r.k, .int .i64 r.n, .int .i64 r.nw, .int .u64 r.id, .int .u64 r.fo2, .int .i64 r.mq, .int .i64 r.mf, .int .i64 r.mt, .int .u64 r.tm, .int .u64 r.ix, .int .u64 r.lt, .int .u64 r.cm, .int .u64 r.rd, .bool r.ok, .bool r.fo, .slice r.eva r.evn r.evc, .int .u64 r.si, .int .u64 r.st, .slice r.mva r.mvn r.mvc, .slice r.sva r.svn r.svc, .slice r.lva r.lvn r.lvc, .slice r.dva r.dvn r.dvc, .slice r.tva r.tvn r.tvc]
def ropC (r : ROp) : List Go.Proofs.Rn.V := [.i .i64 r.k, .i .i64 r.n, .i .i64 r.nw, .i .u64 r.id, .i .u64 r.fo2, .i .i64 r.mq, .i .i64 r.mf, .i .i64 r.mt, .i .u64 r.tm, .i .u64 r.ix, .i .u64 r.lt, .i .u64 r.cm, .i .u64 r.rd, .b r.ok, .b r.fo, .o (.slice r.eva r.evn r.evc), .i .u64 r.si, .i .u64 r.st, .o (.slice r.mva r.mvn r.mvc), .o (.slice r.sva r.svn r.svc), .o (.slice r.lva r.lvn r.lvc), .o (.slice r.dva r.dvn r.dvc), .o (.slice r.tva r.tvn r.tvc)]
/-- Its entries lie in memory. -/
def ROk (w : World) (r : ROp) : Prop := ∃ es : List EnR, SRow w 3 (.slice r.eva r.evn r.evc) (es.map enV) ∧ es.length ≤ maxLen
theorem cellsI : Tryz.prog.cellsOf 3 = 1 := by kernel_rfl
theorem cellsU : Tryz.prog.cellsOf 22 = 1 := by kernel_rfl
theorem cellsB : Tryz.prog.cellsOf 4 = 1 := by kernel_rfl
theorem cellsY : Tryz.prog.cellsOf 25 = 1 := by kernel_rfl
theorem cellsIs : Tryz.prog.cellsOf 24 = 1 := by kernel_rfl
theorem cellsEs : Tryz.prog.cellsOf 23 = 1 := by kernel_rfl
theorem cellsTs : Tryz.prog.cellsOf 30 = 1 := by kernel_rfl
theorem cellsE : Tryz.prog.cellsOf 136 = 3 := by kernel_rfl
theorem cellsS : Tryz.prog.cellsOf 27 = 4 := by kernel_rfl
theorem cellsM : Tryz.prog.cellsOf 29 = 15 := by kernel_rfl
theorem cellsL : Tryz.prog.cellsOf 2 = 1 := by kernel_rfl
theorem cellsO : Tryz.prog.cellsOf 32 = 23 := by kernel_rfl
section
variable {H : Type} {enc : TypeId × Value → H} {W : World}
theorem open_hdr {t e : TypeId} {fuel : Nat} {v : Value} {x : DataW H × List MemPlace} (ht : Tryz.prog.underlying t = some (.slice e)) (hf : DataW.trod enc Tryz.prog W 0 (fun _ => true) true fuel t [v] = some x) : ∃ a n c, v = .slice a n c := by
  rcases open_slice ht hf with ⟨hcs, _⟩ | ⟨a, len, cap, m, n, D, Pl, hcs, _⟩
  · exact ⟨none, 0, 0, by simpa using hcs⟩
  · exact ⟨_, _, _, by simpa using hcs⟩
set_option maxRecDepth 100000 in
theorem open_en {n : Nat} {cs : List Value} {y : DataW H × List MemPlace} (h : DataW.trod enc Tryz.prog W 0 (fun _ => true) true n 136 cs = some y) : ∃ r : EnR, cs = enV r ∧ True := by
  obtain ⟨xs, k, _, _, hl, hxl, hg⟩ := DataW.trod_struct Tryz.underlying136 h
  rw [cellsE] at hl
  match cs, hl with
  | [c0, c1, c2], _ =>
    match xs, hxl with
    | [y0, y1, y2], _ =>
      have g0 := hg 0 _ rfl
      have g1 := hg 1 _ rfl
      have g2 := hg 2 _ rfl
      simp only [List.getElem_toArray, List.getElem_cons_zero, List.getElem_cons_succ] at g0 g1 g2
      rw [cellsU] at g0
      rw [cellsI] at g1
      rw [cellsY] at g2
      simp only [List.drop_zero, List.drop_succ_cons, List.take_succ_cons, List.take_zero, List.getElem?_cons_zero, List.getElem?_cons_succ] at g0 g1 g2
      obtain ⟨z0, e0, _, _⟩ := DataW.trod_int Tryz.underlying22 g0
      obtain rfl : c0 = .int .u64 z0 := by simpa using e0
      obtain ⟨z1, e1, _, _⟩ := DataW.trod_int Tryz.underlying3 g1
      obtain rfl : c1 = .int .i64 z1 := by simpa using e1
      obtain ⟨a2, n2, d2, rfl⟩ := open_hdr Tryz.underlying25 g2
      exact ⟨⟨z0, z1, a2, n2, d2⟩, rfl, trivial⟩
set_option maxRecDepth 100000 in
theorem open_sn {n : Nat} {cs : List Value} {y : DataW H × List MemPlace} (h : DataW.trod enc Tryz.prog W 0 (fun _ => true) true n 27 cs = some y) : ∃ (i t : Int) (a : Option Addr) (n c : Nat) (a2 : Option Addr) (n2 c2 : Nat), cs = [.int .u64 i, .int .u64 t, .slice a n c, .slice a2 n2 c2] := by
  obtain ⟨xs, k, _, _, hl, hxl, hg⟩ := DataW.trod_struct Tryz.underlying27 h
  rw [cellsS] at hl
  match cs, hl with
  | [c0, c1, c2, c3], _ =>
    match xs, hxl with
    | [y0, y1, y2, y3], _ =>
      have g0 := hg 0 _ rfl
      have g1 := hg 1 _ rfl
      have g2 := hg 2 _ rfl
      have g3 := hg 3 _ rfl
      simp only [List.getElem_toArray, List.getElem_cons_zero, List.getElem_cons_succ] at g0 g1 g2 g3
      rw [cellsU] at g0 g1
      rw [cellsIs] at g2
      rw [cellsY] at g3
      simp only [List.drop_zero, List.drop_succ_cons, List.take_succ_cons, List.take_zero, List.getElem?_cons_zero, List.getElem?_cons_succ] at g0 g1 g2 g3
      obtain ⟨z0, e0, _, _⟩ := DataW.trod_int Tryz.underlying22 g0
      obtain rfl : c0 = .int .u64 z0 := by simpa using e0
      obtain ⟨z1, e1, _, _⟩ := DataW.trod_int Tryz.underlying22 g1
      obtain rfl : c1 = .int .u64 z1 := by simpa using e1
      obtain ⟨a2, n2, d2, rfl⟩ := open_hdr Tryz.underlying24 g2
      obtain ⟨a3, n3, d3, rfl⟩ := open_hdr Tryz.underlying25 g3
      exact ⟨z0, z1, a2, n2, d2, a3, n3, d3, rfl⟩
/-- A message's cells. -/
def msL (a b c : Int) (d e f g h : Int) (o p : Bool) (ea : Option Addr) (en ec : Nat) (i j : Int) (ma : Option Addr) (mn mc : Nat) (sa : Option Addr) (sn sc : Nat) : List Value :=
  [.int .i64 a, .int .i64 b, .int .i64 c, .int .u64 d, .int .u64 e, .int .u64 f, .int .u64 g, .int .u64 h, .bool o, .bool p, .slice ea en ec, .int .u64 i, .int .u64 j, .slice ma mn mc, .slice sa sn sc]
set_option maxRecDepth 100000 in
theorem open_ms {n : Nat} {cs : List Value} {y : DataW H × List MemPlace} (h : DataW.trod enc Tryz.prog W 0 (fun _ => true) true n 29 cs = some y) : ∃ a b c d e f g h o p ea en ec i j ma mn mc sa sn sc, cs = msL a b c d e f g h o p ea en ec i j ma mn mc sa sn sc ∧ ∃ es : List EnR, SRow W 3 (.slice ea en ec) (es.map enV) ∧ es.length ≤ maxLen := by
  obtain ⟨xs, k, _, _, hl, hxl, hg⟩ := DataW.trod_struct Tryz.underlying29 h
  rw [cellsM] at hl
  match cs, hl with
  | [c0, c1, c2, c3, c4, c5, c6, c7, c8, c9, c10, c11, c12, c13, c14], _ =>
    match xs, hxl with
    | [y0, y1, y2, y3, y4, y5, y6, y7, y8, y9, y10, y11], _ =>
      have g0 := hg 0 _ rfl
      have g1 := hg 1 _ rfl
      have g2 := hg 2 _ rfl
      have g3 := hg 3 _ rfl
      have g4 := hg 4 _ rfl
      have g5 := hg 5 _ rfl
      have g6 := hg 6 _ rfl
      have g7 := hg 7 _ rfl
      have g8 := hg 8 _ rfl
      have g9 := hg 9 _ rfl
      have g10 := hg 10 _ rfl
      have g11 := hg 11 _ rfl
      simp only [List.getElem_toArray, List.getElem_cons_zero, List.getElem_cons_succ] at g0 g1 g2 g3 g4 g5 g6 g7 g8 g9 g10 g11
      rw [cellsI] at g0 g1 g2
      rw [cellsU] at g3 g4 g5 g6 g7
      rw [cellsB] at g8 g9
      rw [cellsEs] at g10
      rw [cellsS] at g11
      simp only [List.drop_zero, List.drop_succ_cons, List.take_succ_cons, List.take_zero, List.getElem?_cons_zero, List.getElem?_cons_succ] at g0 g1 g2 g3 g4 g5 g6 g7 g8 g9 g10 g11
      obtain ⟨z0, e0, _, _⟩ := DataW.trod_int Tryz.underlying3 g0
      obtain rfl : c0 = .int .i64 z0 := by simpa using e0
      obtain ⟨z1, e1, _, _⟩ := DataW.trod_int Tryz.underlying3 g1
      obtain rfl : c1 = .int .i64 z1 := by simpa using e1
      obtain ⟨z2, e2, _, _⟩ := DataW.trod_int Tryz.underlying3 g2
      obtain rfl : c2 = .int .i64 z2 := by simpa using e2
      obtain ⟨z3, e3, _, _⟩ := DataW.trod_int Tryz.underlying22 g3
      obtain rfl : c3 = .int .u64 z3 := by simpa using e3
      obtain ⟨z4, e4, _, _⟩ := DataW.trod_int Tryz.underlying22 g4
      obtain rfl : c4 = .int .u64 z4 := by simpa using e4
      obtain ⟨z5, e5, _, _⟩ := DataW.trod_int Tryz.underlying22 g5
      obtain rfl : c5 = .int .u64 z5 := by simpa using e5
      obtain ⟨z6, e6, _, _⟩ := DataW.trod_int Tryz.underlying22 g6
      obtain rfl : c6 = .int .u64 z6 := by simpa using e6
      obtain ⟨z7, e7, _, _⟩ := DataW.trod_int Tryz.underlying22 g7
      obtain rfl : c7 = .int .u64 z7 := by simpa using e7
      obtain ⟨z8, e8, _⟩ := DataW.trod_bool Tryz.underlying4 g8
      obtain rfl : c8 = .bool z8 := by simpa using e8
      obtain ⟨z9, e9, _⟩ := DataW.trod_bool Tryz.underlying4 g9
      obtain rfl : c9 = .bool z9 := by simpa using e9
      obtain ⟨es, hes, _, hel⟩ := open_rows (val := enV) (Ok := fun _ => True) Tryz.underlying23 cellsE (by decide) (fun n cs y h => open_en h) g10
      obtain ⟨a10, n10, d10, rfl⟩ := open_hdr Tryz.underlying23 g10
      obtain ⟨si, st, ma, mn, mc, sa, sn, sc, hsn⟩ := open_sn g11
      simp only [List.cons.injEq, and_true] at hsn
      obtain ⟨rfl, rfl, rfl, rfl⟩ := hsn
      exact ⟨_, _, _, _, _, _, _, _, _, _, _, _, _, _, _, _, _, _, _, _, _, rfl, es, hes, hel⟩
set_option maxRecDepth 100000 in
theorem open_rop {n : Nat} {cs : List Value} {y : DataW H × List MemPlace} (h : DataW.trod enc Tryz.prog W 0 (fun _ => true) true n 32 cs = some y) : ∃ r : ROp, cs = ropV r ∧ ROk W r := by
  obtain ⟨xs, k, _, _, hl, hxl, hg⟩ := DataW.trod_struct Tryz.underlying32 h
  rw [cellsO] at hl
  match cs, hl with
  | [c0, c1, c2, c3, c4, c5, c6, c7, c8, c9, c10, c11, c12, c13, c14, c15, c16, c17, c18, c19, c20, c21, c22], _ =>
    match xs, hxl with
    | [y0, y1, y2, y3, y4, y5, y6, y7, y8], _ =>
      have g0 := hg 0 _ rfl
      have g1 := hg 1 _ rfl
      have g2 := hg 2 _ rfl
      have g3 := hg 3 _ rfl
      have g4 := hg 4 _ rfl
      have g5 := hg 5 _ rfl
      have g6 := hg 6 _ rfl
      have g7 := hg 7 _ rfl
      have g8 := hg 8 _ rfl
      simp only [List.getElem_toArray, List.getElem_cons_zero, List.getElem_cons_succ] at g0 g1 g2 g3 g4 g5 g6 g7 g8
      rw [cellsI] at g0 g1
      rw [cellsL] at g2
      rw [cellsU] at g3 g4
      rw [cellsM] at g5
      rw [cellsIs] at g6
      rw [cellsY] at g7
      rw [cellsTs] at g8
      simp only [List.drop_zero, List.drop_succ_cons, List.take_succ_cons, List.take_zero, List.getElem?_cons_zero, List.getElem?_cons_succ] at g0 g1 g2 g3 g4 g5 g6 g7 g8
      obtain ⟨z0, e0, _, _⟩ := DataW.trod_int Tryz.underlying3 g0
      obtain rfl : c0 = .int .i64 z0 := by simpa using e0
      obtain ⟨z1, e1, _, _⟩ := DataW.trod_int Tryz.underlying3 g1
      obtain rfl : c1 = .int .i64 z1 := by simpa using e1
      obtain ⟨z2, e2, _, _⟩ := DataW.trod_int Tryz.underlying2 g2
      obtain rfl : c2 = .int .i64 z2 := by simpa using e2
      obtain ⟨z3, e3, _, _⟩ := DataW.trod_int Tryz.underlying22 g3
      obtain rfl : c3 = .int .u64 z3 := by simpa using e3
      obtain ⟨z4, e4, _, _⟩ := DataW.trod_int Tryz.underlying22 g4
      obtain rfl : c4 = .int .u64 z4 := by simpa using e4
      obtain ⟨a, b, c, d, e, f, g, h9, o, p, ea, en, ec, i, j, ma, mn, mc, sa, sn, sc, hms, hes⟩ := open_ms g5
      simp only [msL, List.cons.injEq, and_true] at hms
      obtain ⟨rfl, rfl, rfl, rfl, rfl, rfl, rfl, rfl, rfl, rfl, rfl, rfl, rfl, rfl, rfl⟩ := hms
      obtain ⟨a20, n20, d20, rfl⟩ := open_hdr Tryz.underlying24 g6
      obtain ⟨a21, n21, d21, rfl⟩ := open_hdr Tryz.underlying25 g7
      obtain ⟨a22, n22, d22, rfl⟩ := open_hdr Tryz.underlying30 g8
      exact ⟨⟨z0, z1, z2, z3, z4, a, b, c, d, e, f, g, h9, o, p, ea, en, ec, i, j, ma, mn, mc, sa, sn, sc, a20, n20, d20, a21, n21, d21, a22, n22, d22⟩, rfl, hes⟩
end
end Go.Proofs.YtkbpafbbogjifaaGreat
