/- The law ClusterNobody: its argument; no conditions. -/
import Derived.Test.YtjdebeibhnjbgaaGreatBb
import Derived.Test.YtjdebeibhnjbgaaGreatBa
import Derived.Test.YtjdebeibhnjbgaaGreatProg
import Derived.Test.YtjdebeibhnjbgaaGreatBLo
import Derived.Maps.OwnSet
namespace Go.Proofs.YtjdebeibhnjbgaaGreat
open Go.ChangeShapes Go.WideShapes Go.ChangeAt Go.RowKit Go.Deep Go.Proofs.Own

theorem own : ownKnob Tryz.prog.godebug = none := by kernel_rfl
/-- An act: its cells. -/
structure CAct where
  k : Int
  who : Int
  n : Int
  to : Int
  id : Int
  ck : Int
  cc : Int
  cr : Int
  ci : Int
  co : Int
  ca : Int
  ko : Int
  wva : Option Addr
  wvn : Nat
  wvc : Nat
  cva : Option Addr
  cvn : Nat
  cvc : Nat
  tc : Int
  lva : Option Addr
  lvn : Nat
  lvc : Nat
  tr : Int
  tb : Int
  tva : Option Addr
  tvn : Nat
  tvc : Nat
def actV (r : CAct) : List Value := [.int .i64 r.k, .int .i64 r.who, .int .i64 r.n, .int .i64 r.to, .int .u64 r.id, .int .i64 r.ck, .int .u64 r.cc, .int .u64 r.cr, .int .u64 r.ci, .int .i64 r.co, .int .i64 r.ca, .int .i64 r.ko, .slice r.wva r.wvn r.wvc, .slice r.cva r.cvn r.cvc, .int .i64 r.tc, .slice r.lva r.lvn r.lvc, .int .i64 r.tr, .int .i64 r.tb, .slice r.tva r.tvn r.tvc]
def actC (r : CAct) : List Go.Proofs.Rn.V := [.i .i64 r.k, .i .i64 r.who, .i .i64 r.n, .i .i64 r.to, .i .u64 r.id, .i .i64 r.ck, .i .u64 r.cc, .i .u64 r.cr, .i .u64 r.ci, .i .i64 r.co, .i .i64 r.ca, .i .i64 r.ko, .o (.slice r.wva r.wvn r.wvc), .o (.slice r.cva r.cvn r.cvc), .i .i64 r.tc, .o (.slice r.lva r.lvn r.lvc), .i .i64 r.tr, .i .i64 r.tb, .o (.slice r.tva r.tvn r.tvc)]
theorem cellsI : Tryz.prog.cellsOf 3 = 1 := by kernel_rfl
theorem cellsL : Tryz.prog.cellsOf 2 = 1 := by kernel_rfl
theorem cellsU : Tryz.prog.cellsOf 22 = 1 := by kernel_rfl
theorem cellsSp : Tryz.prog.cellsOf 23 = 1 := by kernel_rfl
theorem cellsLv : Tryz.prog.cellsOf 26 = 1 := by kernel_rfl
theorem cellsTs : Tryz.prog.cellsOf 31 = 1 := by kernel_rfl
theorem cellsCal : Tryz.prog.cellsOf 25 = 3 := by kernel_rfl
theorem cellsCon : Tryz.prog.cellsOf 28 = 4 := by kernel_rfl
theorem cellsCom : Tryz.prog.cellsOf 30 = 13 := by kernel_rfl
theorem cellsAct : Tryz.prog.cellsOf 33 = 19 := by kernel_rfl
section
variable {H : Type} {enc : TypeId × Value → H} {W : World}
theorem open_hdr {t e : TypeId} {fuel : Nat} {v : Value} {x : DataW H × List MemPlace} (ht : Tryz.prog.underlying t = some (.slice e)) (hf : DataW.trod enc Tryz.prog W 0 (fun _ => true) true fuel t [v] = some x) : ∃ a n c, v = .slice a n c := by
  rcases open_slice ht hf with ⟨hcs, _⟩ | ⟨a, len, cap, m, n, D, Pl, hcs, _⟩
  · exact ⟨none, 0, 0, by simpa using hcs⟩
  · exact ⟨_, _, _, by simpa using hcs⟩
set_option maxRecDepth 100000 in
theorem open_cal {n : Nat} {cs : List Value} {y : DataW H × List MemPlace} (h : DataW.trod enc Tryz.prog W 0 (fun _ => true) true n 25 cs = some y) : ∃ (i : Int) (a : Option Addr) (n c : Nat) (a2 : Option Addr) (n2 c2 : Nat), cs = [.int .i64 i, .slice a n c, .slice a2 n2 c2] := by
  obtain ⟨xs, k, _, _, hl, hxl, hg⟩ := DataW.trod_struct Tryz.underlying25 h
  rw [cellsCal] at hl
  match cs, hl with
  | [c0, c1, c2], _ =>
    match xs, hxl with
    | [y0, y1, y2], _ =>
      have g0 := hg 0 _ rfl
      have g1 := hg 1 _ rfl
      have g2 := hg 2 _ rfl
      simp only [List.getElem_toArray, List.getElem_cons_zero, List.getElem_cons_succ] at g0 g1 g2
      rw [cellsL] at g0
      rw [cellsSp] at g1 g2
      simp only [List.drop_zero, List.drop_succ_cons, List.take_succ_cons, List.take_zero, List.getElem?_cons_zero, List.getElem?_cons_succ] at g0 g1 g2
      obtain ⟨z0, e0, _, _⟩ := DataW.trod_int Tryz.underlying2 g0
      obtain rfl : c0 = .int .i64 z0 := by simpa using e0
      obtain ⟨a1, n1, d1, rfl⟩ := open_hdr Tryz.underlying23 g1
      obtain ⟨a2, n2, d2, rfl⟩ := open_hdr Tryz.underlying23 g2
      exact ⟨z0, a1, n1, d1, a2, n2, d2, rfl⟩
set_option maxRecDepth 100000 in
theorem open_con {n : Nat} {cs : List Value} {y : DataW H × List MemPlace} (h : DataW.trod enc Tryz.prog W 0 (fun _ => true) true n 28 cs = some y) : ∃ (i : Int) (a : Option Addr) (n c : Nat) (j k : Int), cs = [.int .i64 i, .slice a n c, .int .i64 j, .int .i64 k] := by
  obtain ⟨xs, k, _, _, hl, hxl, hg⟩ := DataW.trod_struct Tryz.underlying28 h
  rw [cellsCon] at hl
  match cs, hl with
  | [c0, c1, c2, c3], _ =>
    match xs, hxl with
    | [y0, y1, y2, y3], _ =>
      have g0 := hg 0 _ rfl
      have g1 := hg 1 _ rfl
      have g2 := hg 2 _ rfl
      have g3 := hg 3 _ rfl
      simp only [List.getElem_toArray, List.getElem_cons_zero, List.getElem_cons_succ] at g0 g1 g2 g3
      rw [cellsI] at g0 g2
      rw [cellsLv] at g1
      rw [cellsL] at g3
      simp only [List.drop_zero, List.drop_succ_cons, List.take_succ_cons, List.take_zero, List.getElem?_cons_zero, List.getElem?_cons_succ] at g0 g1 g2 g3
      obtain ⟨z0, e0, _, _⟩ := DataW.trod_int Tryz.underlying3 g0
      obtain rfl : c0 = .int .i64 z0 := by simpa using e0
      obtain ⟨a1, n1, d1, rfl⟩ := open_hdr Tryz.underlying26 g1
      obtain ⟨z2, e2, _, _⟩ := DataW.trod_int Tryz.underlying3 g2
      obtain rfl : c2 = .int .i64 z2 := by simpa using e2
      obtain ⟨z3, e3, _, _⟩ := DataW.trod_int Tryz.underlying2 g3
      obtain rfl : c3 = .int .i64 z3 := by simpa using e3
      exact ⟨z0, a1, n1, d1, z2, z3, rfl⟩
def comL (a : Int) (b c d : Int) (e f g : Int) (wa : Option Addr) (wn wc : Nat) (ca : Option Addr) (cn cc : Nat) (tc : Int) (la : Option Addr) (ln lc : Nat) (tr tb : Int) : List Value := [.int .i64 a, .int .u64 b, .int .u64 c, .int .u64 d, .int .i64 e, .int .i64 f, .int .i64 g, .slice wa wn wc, .slice ca cn cc, .int .i64 tc, .slice la ln lc, .int .i64 tr, .int .i64 tb]
set_option maxRecDepth 100000 in
theorem open_com {n : Nat} {cs : List Value} {y : DataW H × List MemPlace} (h : DataW.trod enc Tryz.prog W 0 (fun _ => true) true n 30 cs = some y) : ∃ a b c d e f g wa wn wc ca cn cc tc la ln lc tr tb, cs = comL a b c d e f g wa wn wc ca cn cc tc la ln lc tr tb := by
  obtain ⟨xs, k, _, _, hl, hxl, hg⟩ := DataW.trod_struct Tryz.underlying30 h
  rw [cellsCom] at hl
  match cs, hl with
  | [c0, c1, c2, c3, c4, c5, c6, c7, c8, c9, c10, c11, c12], _ =>
    match xs, hxl with
    | [y0, y1, y2, y3, y4, y5, y6, y7], _ =>
      have g0 := hg 0 _ rfl
      have g1 := hg 1 _ rfl
      have g2 := hg 2 _ rfl
      have g3 := hg 3 _ rfl
      have g4 := hg 4 _ rfl
      have g5 := hg 5 _ rfl
      have g6 := hg 6 _ rfl
      have g7 := hg 7 _ rfl
      simp only [List.getElem_toArray, List.getElem_cons_zero, List.getElem_cons_succ] at g0 g1 g2 g3 g4 g5 g6 g7
      rw [cellsI] at g0 g4
      rw [cellsU] at g1 g2 g3
      rw [cellsL] at g5
      rw [cellsCal] at g6
      rw [cellsCon] at g7
      simp only [List.drop_zero, List.drop_succ_cons, List.take_succ_cons, List.take_zero, List.getElem?_cons_zero, List.getElem?_cons_succ] at g0 g1 g2 g3 g4 g5 g6 g7
      obtain ⟨z0, e0, _, _⟩ := DataW.trod_int Tryz.underlying3 g0
      obtain rfl : c0 = .int .i64 z0 := by simpa using e0
      obtain ⟨z1, e1, _, _⟩ := DataW.trod_int Tryz.underlying22 g1
      obtain rfl : c1 = .int .u64 z1 := by simpa using e1
      obtain ⟨z2, e2, _, _⟩ := DataW.trod_int Tryz.underlying22 g2
      obtain rfl : c2 = .int .u64 z2 := by simpa using e2
      obtain ⟨z3, e3, _, _⟩ := DataW.trod_int Tryz.underlying22 g3
      obtain rfl : c3 = .int .u64 z3 := by simpa using e3
      obtain ⟨z4, e4, _, _⟩ := DataW.trod_int Tryz.underlying3 g4
      obtain rfl : c4 = .int .i64 z4 := by simpa using e4
      obtain ⟨z5, e5, _, _⟩ := DataW.trod_int Tryz.underlying2 g5
      obtain rfl : c5 = .int .i64 z5 := by simpa using e5
      obtain ⟨ko, wa, wn, wc, ca, cn, cc, hk⟩ := open_cal g6
      simp only [List.cons.injEq, and_true] at hk
      obtain ⟨rfl, rfl, rfl⟩ := hk
      obtain ⟨tc, la, ln, lc, tr, tb, hk⟩ := open_con g7
      simp only [List.cons.injEq, and_true] at hk
      obtain ⟨rfl, rfl, rfl, rfl⟩ := hk
      exact ⟨_, _, _, _, _, _, _, _, _, _, _, _, _, _, _, _, _, _, _, rfl⟩
set_option maxRecDepth 100000 in
theorem open_act {n : Nat} {cs : List Value} {y : DataW H × List MemPlace} (h : DataW.trod enc Tryz.prog W 0 (fun _ => true) true n 33 cs = some y) : ∃ r : CAct, cs = actV r := by
  obtain ⟨xs, k, _, _, hl, hxl, hg⟩ := DataW.trod_struct Tryz.underlying33 h
  rw [cellsAct] at hl
  match cs, hl with
  | [c0, c1, c2, c3, c4, c5, c6, c7, c8, c9, c10, c11, c12, c13, c14, c15, c16, c17, c18], _ =>
    match xs, hxl with
    | [y0, y1, y2, y3, y4, y5, y6], _ =>
      have g0 := hg 0 _ rfl
      have g1 := hg 1 _ rfl
      have g2 := hg 2 _ rfl
      have g3 := hg 3 _ rfl
      have g4 := hg 4 _ rfl
      have g5 := hg 5 _ rfl
      have g6 := hg 6 _ rfl
      simp only [List.getElem_toArray, List.getElem_cons_zero, List.getElem_cons_succ] at g0 g1 g2 g3 g4 g5 g6
      rw [cellsI] at g0 g1 g2 g3
      rw [cellsU] at g4
      rw [cellsCom] at g5
      rw [cellsTs] at g6
      simp only [List.drop_zero, List.drop_succ_cons, List.take_succ_cons, List.take_zero, List.getElem?_cons_zero, List.getElem?_cons_succ] at g0 g1 g2 g3 g4 g5 g6
      obtain ⟨z0, e0, _, _⟩ := DataW.trod_int Tryz.underlying3 g0
      obtain rfl : c0 = .int .i64 z0 := by simpa using e0
      obtain ⟨z1, e1, _, _⟩ := DataW.trod_int Tryz.underlying3 g1
      obtain rfl : c1 = .int .i64 z1 := by simpa using e1
      obtain ⟨z2, e2, _, _⟩ := DataW.trod_int Tryz.underlying3 g2
      obtain rfl : c2 = .int .i64 z2 := by simpa using e2
      obtain ⟨z3, e3, _, _⟩ := DataW.trod_int Tryz.underlying3 g3
      obtain rfl : c3 = .int .i64 z3 := by simpa using e3
      obtain ⟨z4, e4, _, _⟩ := DataW.trod_int Tryz.underlying22 g4
      obtain rfl : c4 = .int .u64 z4 := by simpa using e4
      obtain ⟨a, b, c, d, e, f, g9, wa, wn, wc, ca, cn, cc, tc, la, ln, lc, tr, tb, hk⟩ := open_com g5
      simp only [comL, List.cons.injEq, and_true] at hk
      obtain ⟨rfl, rfl, rfl, rfl, rfl, rfl, rfl, rfl, rfl, rfl, rfl, rfl, rfl⟩ := hk
      obtain ⟨a18, n18, d18, rfl⟩ := open_hdr Tryz.underlying31 g6
      exact ⟨⟨z0, z1, z2, z3, z4, a, b, c, d, e, f, g9, wa, wn, wc, ca, cn, cc, tc, la, ln, lc, tr, tb, a18, n18, d18⟩, rfl⟩
end
end Go.Proofs.YtjdebeibhnjbgaaGreat
