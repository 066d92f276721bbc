/- Several texts in one: Vti, Vtk, Vtm, Vtn, VbrH. What each proves stands ahead of it; together they serve vbroken_law_holds. No conditions but those stated. -/
import Derived.Test.YtjdglpcnkiioeaaGreatVbb18
import Derived.Test.YtjdglpcnkiioeaaGreatVbb26
import Derived.Test.YtjdglpcnkiioeaaGreatVbb39
import Derived.Test.YtjdglpcnkiioeaaGreatVbb33
import Derived.Test.YtjdglpcnkiioeaaGreatVbb15
namespace Go.Proofs.YtjdglpcnkiioeaaGreat
open Go.Lib (hid)
open Go.RowKit Go.Maps Go.Proofs.Own Go.Shelf

def NilV (w : World) (p : Option Addr) : Prop := p = none \/ ∃ vb, p = some ⟨vb, 0, none⟩ /\ VC w vb none none none
theorem NilV.below {w w' : World} {p : Option Addr} (h : NilV w p) (hb : Below w.heap.size w w') : NilV w' p := by
  rcases h with h | ⟨vb, h, k⟩
  . exact .inl h
  . exact .inr ⟨vb, h, k.below hb⟩
theorem nv_f0 : ∀ w : World, (Instr.field 109 (.agg #[.pointer none, .pointer none, .pointer none]) 0).run Tryz.prog w = .ok (.pointer none) w := fun _ => by kernel_rfl
theorem nv_f1 : ∀ w : World, (Instr.field 109 (.agg #[.pointer none, .pointer none, .pointer none]) 1).run Tryz.prog w = .ok (.pointer none) w := fun _ => by kernel_rfl
theorem nv_f2 : ∀ w : World, (Instr.field 109 (.agg #[.pointer none, .pointer none, .pointer none]) 2).run Tryz.prog w = .ok (.pointer none) w := fun _ => by kernel_rfl
set_option maxHeartbeats 2000000 in
set_option maxRecDepth 20000 in
theorem nv_all {w : World} {p : Option Addr} (h : NilV w p) :
    Calls Tryz.prog 106 #[.pointer p] w fun e w' => e = .returned (.agg #[.pointer none, .pointer none, .pointer none]) /\ Below w.heap.size w w' := by
  rcases h with rfl | ⟨vb, rfl, hv⟩
  . go_enter Tryz.func106, Tryz.ntmps106
    go_wp2_with fail
    refine bodyPost_ret (v := .agg #[.pointer none, .pointer none, .pointer none]) (by simp [results, Tryz.results106, go_sem]) rfl ?_
    exact ⟨rfl, (Below.refl _ _).alloc (Nat.le_refl _) _⟩
  . have hlt := hv.lt
    obtain ⟨c0, c1, c2, _, _, _, _, _, _⟩ := hv
    go_enter Tryz.func106, Tryz.ntmps106
    go_wp2_with fail
    refine bodyPost_ret (v := .agg #[.pointer none, .pointer none, .pointer none]) (by simp [results, Tryz.results106, go_sem]) rfl ?_
    exact ⟨rfl, (Below.refl _ _).alloc (Nat.le_refl _) _⟩
set_option maxHeartbeats 2000000 in
theorem nv_may {w : World} {p : Option Addr} (h : NilV w p) :
    Calls Tryz.prog 102 #[.pointer p] w fun e w' => e = .returned (.int .i64 1) /\ w = w' := by
  rcases h with rfl | ⟨vb, rfl, hv⟩
  . go_enter Tryz.func102, Tryz.ntmps102
    go_wp2_with fail
    go_ret
    exact ⟨rfl, rfl⟩
  . obtain ⟨c0, c1, c2, c3, _, _, _, _, _⟩ := hv
    go_enter Tryz.func102, Tryz.ntmps102
    go_wp2_with fail
    go_ret
    exact ⟨rfl, rfl⟩
set_option maxHeartbeats 2000000 in
theorem nv_broken {w : World} {p : Option Addr} (h : NilV w p) :
    Calls Tryz.prog 43 #[.pointer p] w fun e w' => e = .returned (.bool false) /\ w = w' := by
  rcases h with rfl | ⟨vb, rfl, hv⟩
  . go_enter Tryz.func43, Tryz.ntmps43
    go_wp2_with fail
    go_ret
    exact ⟨rfl, rfl⟩
  . obtain ⟨c0, c1, c2, c3, _, _, _, _, _⟩ := hv
    go_enter Tryz.func43, Tryz.ntmps43
    go_wp2_with fail
    go_ret
    exact ⟨rfl, rfl⟩
theorem nolog_nil (w : World) : NoLog none w := nofun
set_option maxHeartbeats 2000000 in
set_option maxRecDepth 20000 in
theorem nv_first {w : World} {p : Option Addr} (h : NilV w p) :
    Calls Tryz.prog 49 #[.pointer p] w fun e w' => e = .returned (.int .u64 0) /\ Below w.heap.size w w' := by
  have HH := hid h
  clear h
  go_enter Tryz.func49, Tryz.ntmps49
  go_wp2_with fail
  refine (nv_all HH.out).mono ?_
  rintro e w1 ⟨rfl, hb1⟩
  dsimp only
  have hfd := nv_f2
  have B1 := hid hb1
  clear hb1
  go_wp2_with fail
  refine (nfirst (nolog_nil w1)).mono ?_
  rintro e w2 ⟨rfl, hb2⟩
  have B2 : Hid (Below w.heap.size w w2) := hid (B1.out.trans (hb2.mono B1.out.size))
  clear hb2
  go_wp2_with fail
  go_ret
  exact ⟨rfl, B2.out⟩
set_option maxHeartbeats 2000000 in
set_option maxRecDepth 20000 in
theorem nv_last {w : World} {p : Option Addr} (h : NilV w p) :
    Calls Tryz.prog 45 #[.pointer p] w fun e w' => e = .returned (.int .u64 0) /\ Below w.heap.size w w' := by
  have HH := hid h
  clear h
  go_enter Tryz.func45, Tryz.ntmps45
  go_wp2_with fail
  refine (nv_all HH.out).mono ?_
  rintro e w1 ⟨rfl, hb1⟩
  dsimp only
  have hfd := nv_f2
  have B1 := hid hb1
  clear hb1
  go_wp2_with fail
  refine (nlast (nolog_nil w1)).mono ?_
  rintro e w2 ⟨rfl, hb2⟩
  have B2 : Hid (Below w.heap.size w w2) := hid (B1.out.trans (hb2.mono B1.out.size))
  clear hb2
  go_wp2_with fail
  go_ret
  exact ⟨rfl, B2.out⟩
set_option maxHeartbeats 2000000 in
set_option maxRecDepth 20000 in
theorem nv_from {w : World} {p : Option Addr} (h : NilV w p) (index most : Int) :
    Calls Tryz.prog 52 #[.pointer p, .int .u64 index, .int .i64 most] w fun e w' => e = .returned (.slice none 0 0) /\ Below w.heap.size w w' := by
  have HH := hid h
  clear h
  go_enter Tryz.func52, Tryz.ntmps52
  go_wp2_with fail
  refine (nv_all HH.out).mono ?_
  rintro e w1 ⟨rfl, hb1⟩
  dsimp only
  have hfd := nv_f2
  have B1 := hid hb1
  clear hb1
  go_wp2_with fail
  refine (nfrom (nolog_nil w1) index most).mono ?_
  rintro e w2 ⟨rfl, hb2⟩
  have B2 : Hid (Below w.heap.size w w2) := hid (B1.out.trans (hb2.mono B1.out.size))
  clear hb2
  go_wp2_with fail
  go_ret
  exact ⟨rfl, B2.out⟩
set_option maxHeartbeats 2000000 in
set_option maxRecDepth 20000 in
theorem nv_at {w : World} {p : Option Addr} (h : NilV w p) (index : Int) :
    Calls Tryz.prog 46 #[.pointer p, .int .u64 index] w fun e w' => e = .returned (.tuple #[.agg #[.int .u64 0, .int .i64 0, .slice none 0 0], .bool false]) /\ Below w.heap.size w w' := by
  have HH := hid h
  clear h
  go_enter Tryz.func46, Tryz.ntmps46
  go_wp2_with fail
  generalize hW1 : World.alloc w _ = W1
  have A1 : Hid (Below w.heap.size w W1) := hid (by subst hW1; exact (Below.refl _ _).alloc (Nat.le_refl _) _)
  have X1 : Hid (EC W1 w.heap.size 0 0 (.slice none 0 0)) := hid (by subst hW1; exact EC.box w)
  clear hW1
  refine (nv_all (HH.out.below A1.out)).mono ?_
  rintro e w1 ⟨rfl, hb1⟩
  dsimp only
  have hfd := nv_f2
  have B1 : Hid (Below w.heap.size w w1) := hid (A1.out.trans (hb1.mono A1.out.size))
  have X2 := hid (X1.out.below hb1)
  clear hb1
  go_wp2_with fail
  refine (nat (nolog_nil w1) index).mono ?_
  rintro e w2 ⟨rfl, hb2⟩
  have B2 : Hid (Below w.heap.size w w2) := hid (B1.out.trans (hb2.mono B1.out.size))
  have X3 := hid (X2.out.below hb2)
  obtain ⟨x0, x1, x2, f0, f1, f2⟩ := X3.out
  clear hb2 hfd
  go_wp2_with fail
  have X4 := X3.out.set3
  have K4 := EC.kept3 w2 w.heap.size (.int .u64 0) (.int .i64 0) (.slice none 0 0)
  obtain ⟨r0, r1, r2, _, _, _⟩ := X4
  refine bodyPost_ret (v := .tuple #[.agg #[.int .u64 0, .int .i64 0, .slice none 0 0], .bool false]) (by simp [results, Tryz.results46, go_sem, r0, r1, r2]) rfl ?_
  exact ⟨rfl, B2.out.trans (K4.below B2.out.size fun k e => by omega)⟩
set_option maxHeartbeats 2000000 in
set_option maxRecDepth 20000 in
theorem nv_get {w : World} {p : Option Addr} (h : NilV w p) :
    Calls Tryz.prog 47 #[.pointer p] w fun e w' => e = .returned (.tuple #[.agg #[.int .u64 0, .int .u64 0, .slice none 0 0, .slice none 0 0], .bool false]) /\ Below w.heap.size w w' := by
  have HH := hid h
  clear h
  go_enter Tryz.func47, Tryz.ntmps47
  go_wp2_with fail
  generalize hW1 : World.alloc w _ = W1
  have A1 : Hid (Below w.heap.size w W1) := hid (by subst hW1; exact (Below.refl _ _).alloc (Nat.le_refl _) _)
  have X1 : Hid (SBlk W1 w.heap.size 0 0 (.slice none 0 0) (.slice none 0 0)) := hid (by subst hW1; exact SBlk.new w)
  clear hW1
  refine (nv_all (HH.out.below A1.out)).mono ?_
  rintro e w1 ⟨rfl, hb1⟩
  dsimp only
  have hfd := nv_f1
  have B1 : Hid (Below w.heap.size w w1) := hid (A1.out.trans (hb1.mono A1.out.size))
  have X2 := hid (X1.out.below hb1)
  clear hb1
  go_wp2_with fail
  refine (nos_get none w1 (.inl rfl)).mono ?_
  rintro e w2 ⟨rfl, hb2⟩
  have B2 : Hid (Below w.heap.size w w2) := hid (B1.out.trans (hb2.mono B1.out.size))
  have X3 := hid (X2.out.below hb2)
  obtain ⟨q0, q1, q2, q3, g0, g1, g2, g3⟩ := X3.out
  clear hb2 hfd
  go_wp2_with fail
  have X4 := X3.out.set4 0 0 (.slice none 0 0) (.slice none 0 0)
  have K4 := Kept.set4 w2 w.heap.size 0 0 (.slice none 0 0) (.slice none 0 0)
  obtain ⟨r0, r1, r2, r3, _, _, _, _⟩ := X4
  refine bodyPost_ret (v := .tuple #[.agg #[.int .u64 0, .int .u64 0, .slice none 0 0, .slice none 0 0], .bool false]) (by simp [results, Tryz.results47, go_sem, r0, r1, r2, r3]) rfl ?_
  exact ⟨rfl, B2.out.trans (K4.below B2.out.size fun k e => by omega)⟩
set_option maxHeartbeats 2000000 in
set_option maxRecDepth 20000 in
theorem nv_state {w : World} {p : Option Addr} (h : NilV w p) :
    Calls Tryz.prog 51 #[.pointer p] w fun e w' => e = .returned (.agg #[.int .u64 0, .int .i64 (-1)]) /\ Below w.heap.size w w' := by
  have HH := hid h
  clear h
  go_enter Tryz.func51, Tryz.ntmps51
  go_wp2_with fail
  generalize hW1 : World.alloc w _ = W1
  have A1 : Hid (Below w.heap.size w W1) := hid (by subst hW1; exact (Below.refl _ _).alloc (Nat.le_refl _) _)
  have X1 : Hid (SC W1 w.heap.size 0 0) := hid (by subst hW1; exact SC.box w 0 0)
  clear hW1
  refine (nv_all (HH.out.below A1.out)).mono ?_
  rintro e w1 ⟨rfl, hb1⟩
  dsimp only
  have hfd := nv_f0
  have B1 : Hid (Below w.heap.size w w1) := hid (A1.out.trans (hb1.mono A1.out.size))
  have X2 := hid (X1.out.below hb1)
  clear hb1
  go_wp2_with fail
  refine (vstate_no none w1 (fun w2 _ => vnone_nil w2)).mono ?_
  rintro e w2 ⟨rfl, hb2⟩
  have B2 : Hid (Below w.heap.size w w2) := hid (B1.out.trans (hb2.mono B1.out.size))
  have X3 := hid (X2.out.below hb2)
  obtain ⟨x0, x1, f0, f1⟩ := X3.out
  clear hb2 hfd
  go_wp2_with fail
  have X4 := X3.out.set 0 (-1)
  have K4 := Kept.set2 w2 w.heap.size (.int .u64 0) (.int .i64 (-1))
  obtain ⟨r0, r1, _, _⟩ := X4
  refine bodyPost_ret (v := .agg #[.int .u64 0, .int .i64 (-1)]) (by simp [results, Tryz.results51, go_sem, r0, r1]) rfl ?_
  exact ⟨rfl, B2.out.trans (K4.below B2.out.size fun k e => by omega)⟩
set_option maxHeartbeats 2000000 in
set_option maxRecDepth 20000 in
theorem nv_base {w : World} {p : Option Addr} (h : NilV w p) :
    Calls Tryz.prog 50 #[.pointer p] w fun e w' => e = .returned (.int .u64 0) /\ Below w.heap.size w w' := by
  have HH := hid h
  clear h
  go_enter Tryz.func50, Tryz.ntmps50
  go_wp2_with fail
  refine (nv_get HH.out).mono ?_
  rintro e w1 ⟨rfl, hb1⟩
  have B1 := hid hb1
  clear hb1
  dsimp only
  go_wp2_with fail
  go_ret
  exact ⟨rfl, B1.out.alloc B1.out.size _⟩
set_option maxHeartbeats 2000000 in
set_option maxRecDepth 20000 in
theorem nv_term {w : World} {p : Option Addr} (h : NilV w p) (n : Int) :
    Calls Tryz.prog 48 #[.pointer p, .int .u64 n] w fun e w' => e = .returned (.tuple #[.int .u64 0, .bool false]) /\ Below w.heap.size w w' := by
  have HH := hid h
  clear h
  go_enter Tryz.func48, Tryz.ntmps48
  go_wp2_with fail
  have B1 := hid (Below.refl w.heap.size w)
  refine (nv_may HH.out).mono ?_
  rintro e w1 ⟨rfl, rfl⟩
  dsimp only
  go_wp2_with fail
  refine bodyPost_ret (v := .tuple #[.int .u64 0, .bool false]) (by simp [results, Tryz.results48, go_sem]) rfl ?_
  exact ⟨rfl, B1.out⟩
set_option maxHeartbeats 2000000 in
set_option maxRecDepth 20000 in
theorem nv_append {w : World} {p : Option Addr} (h : NilV w p) (a : Option Addr) (n c : Nat) :
    Calls Tryz.prog 42 #[.pointer p, .slice a n c] w fun e w' => e = .returned (.int .i64 1) /\ Below w.heap.size w w' := by
  have HH := hid h
  clear h
  go_enter Tryz.func42, Tryz.ntmps42
  go_wp2_with fail
  have B1 := hid (Below.refl w.heap.size w)
  refine (nv_may HH.out).mono ?_
  rintro e w1 ⟨rfl, rfl⟩
  dsimp only
  go_wp2_with fail
  go_ret
  exact ⟨rfl, B1.out⟩
set_option maxHeartbeats 2000000 in
set_option maxRecDepth 20000 in
theorem nv_cut {w : World} {p : Option Addr} (h : NilV w p) (n : Int) :
    Calls Tryz.prog 104 #[.pointer p, .int .u64 n] w fun e w' => e = .returned (.int .i64 1) /\ Below w.heap.size w w' := by
  have HH := hid h
  clear h
  go_enter Tryz.func104, Tryz.ntmps104
  go_wp2_with fail
  have B1 := hid (Below.refl w.heap.size w)
  refine (nv_may HH.out).mono ?_
  rintro e w1 ⟨rfl, rfl⟩
  dsimp only
  go_wp2_with fail
  go_ret
  exact ⟨rfl, B1.out⟩
set_option maxHeartbeats 2000000 in
set_option maxRecDepth 20000 in
theorem nv_keep {w : World} {p : Option Addr} (h : NilV w p) (t v : Int) :
    Calls Tryz.prog 105 #[.pointer p, .agg #[.int .u64 t, .int .i64 v]] w fun e w' => e = .returned (.int .i64 1) /\ Below w.heap.size w w' := by
  have HH := hid h
  clear h
  go_enter Tryz.func105, Tryz.ntmps105
  go_wp2_with fail
  generalize hW1 : World.alloc w _ = W1
  have B1 : Hid (Below w.heap.size w W1) := hid (by subst hW1; exact (Below.refl _ _).alloc (Nat.le_refl _) _)
  clear hW1
  refine (nv_may (HH.out.below B1.out)).mono ?_
  rintro e w1 ⟨rfl, rfl⟩
  dsimp only
  go_wp2_with fail
  go_ret
  exact ⟨rfl, B1.out⟩
set_option maxHeartbeats 2000000 in
set_option maxRecDepth 20000 in
theorem nv_save {w : World} {p : Option Addr} (h : NilV w p) (i t : Int) (am ad : Option Addr) (nm cm nd cd : Nat) :
    Calls Tryz.prog 81 #[.pointer p, .agg #[.int .u64 i, .int .u64 t, .slice am nm cm, .slice ad nd cd]] w fun e w' => e = .returned (.int .i64 1) /\ Below w.heap.size w w' := by
  have HH := hid h
  clear h
  go_enter Tryz.func81, Tryz.ntmps81
  go_wp2_with fail
  generalize hW1 : World.alloc w _ = W1
  have B1 : Hid (Below w.heap.size w W1) := hid (by subst hW1; exact (Below.refl _ _).alloc (Nat.le_refl _) _)
  clear hW1
  refine (nv_may (HH.out.below B1.out)).mono ?_
  rintro e w1 ⟨rfl, rfl⟩
  dsimp only
  go_wp2_with fail
  go_ret
  exact ⟨rfl, B1.out⟩
set_option maxHeartbeats 2000000 in
set_option maxRecDepth 20000 in
theorem nod_vltopen (p : Option Addr) (w : World) (h : NoDisk w p) : Calls Tryz.prog 41 #[.pointer p] w fun e w' => e = .returned (.tuple #[.pointer none, .int .i64 1]) /\ Below w.heap.size w w' := by
  have H := hid h
  clear h
  go_enter Tryz.func41, Tryz.ntmps41
  go_wp2_with fail
  generalize hW1 : World.alloc w _ = W1
  have B1 : Hid (Below w.heap.size w W1) := hid (by subst hW1; exact (Below.refl _ _).alloc (Nat.le_refl _) _)
  have V1 : Hid (VC W1 w.heap.size none none none) := hid (by subst hW1; exact VC.new w)
  clear hW1
  refine (nod_vopen p W1 (H.out.below B1.out)).mono ?_
  rintro e w2 ⟨rfl, hb2⟩
  have V2 := hid (V1.out.below hb2)
  have B2 : Hid (Below w.heap.size w w2) := hid (B1.out.trans (hb2.mono B1.out.size))
  clear hb2
  obtain ⟨v0, v1, v2, v3, f0, f1, f2, f3, _⟩ := V2.out
  dsimp only
  go_wp2_with fail
  refine bodyPost_ret (v := .tuple #[.pointer none, .int .i64 1]) (by simp [results, Tryz.results41, go_sem]) rfl ?_
  exact ⟨rfl, B2.out.trans ((Kept.setCell w2 ⟨w.heap.size, 0, none⟩ (.pointer none)).below B2.out.size fun k e => by dsimp only at e; omega)⟩
end Go.Proofs.YtjdglpcnkiioeaaGreat
namespace Go.Proofs.YtjdglpcnkiioeaaGreat
open Go.Lib (hid)
open Go.ChangeShapes Go.WideShapes Go.ChangeAt Go.RowKit Go.Deep Go.Proofs.Own

structure TOp where
  k : Int
  n : Int
  a : Nat
  lv : Value
  l : List EArg
  st : Int
  sv : Int
  i : Nat
  t : Int
  am : Option Addr
  nm : Nat
  cm : Nat
  ad : Option Addr
  nd : Nat
  cd : Nat
  tv : Value
  ts : List (Nat × Nat)
def topV (r : TOp) : List Value := [.int .i64 r.k, .int .i64 r.n, .int .u64 r.a, r.lv, .int .u64 r.st, .int .i64 r.sv, .int .u64 r.i, .int .u64 r.t, .slice r.am r.nm r.cm, .slice r.ad r.nd r.cd, r.tv]
structure TOpOk (w : World) (r : TOp) : Prop where
  n : r.n <= 9223372036854775807
  a : (r.a : Int) < 18446744073709551616
  l : EArgsIs w r.lv r.l
  st : 0 <= r.st /\ r.st < 18446744073709551616
  i : (r.i : Int) < 18446744073709551616
  t : 0 <= r.t /\ r.t < 18446744073709551616
  m : r.nm <= 2097152 -> ∃ l, l.length = r.nm /\ Ints w (.slice r.am r.nm r.cm) l
  d : r.nd <= 2097152 -> ∃ l, l.length = r.nd /\ Bytes w (.slice r.ad r.nd r.cd) l
  ts : TearsIs w r.tv r.ts
def TOpsIs (w : World) (v : Value) (rs : List TOp) : Prop := SRow w 11 v (rs.map topV) /\ (∀ r ∈ rs, TOpOk w r) /\ rs.length <= maxLen
theorem cellsSnap28 : Tryz.prog.cellsOf 75 = 4 := by kernel_rfl
theorem cellsInts28 : Tryz.prog.cellsOf 73 = 1 := by kernel_rfl
theorem cellsState28 : Tryz.prog.cellsOf 97 = 2 := by kernel_rfl
theorem cellsTOp : Tryz.prog.cellsOf 99 = 11 := by kernel_rfl
section
variable {H : Type} {enc : TypeId × Value -> H} {W : World}
set_option maxRecDepth 100000 in
theorem open_snap28 {n : Nat} {cs : List Value} {y : DataW H × List MemPlace} (h : DataW.trod enc Tryz.prog W 0 (fun _ => true) true n 75 cs = some y) : ∃ (i : Nat) (t : Int) (am : Option Addr) (nm cm : Nat) (ad : Option Addr) (nd cd : Nat), cs = [.int .u64 i, .int .u64 t, .slice am nm cm, .slice ad nd cd] /\ (i : Int) < 18446744073709551616 /\ (0 <= t /\ t < 18446744073709551616) /\ (nm <= 2097152 -> ∃ l, l.length = nm /\ Ints W (.slice am nm cm) l) /\ (nd <= 2097152 -> ∃ l, l.length = nd /\ Bytes W (.slice ad nd cd) l) := by
  obtain ⟨xs, k, _, _, hl, hxl, hg⟩ := DataW.trod_struct Tryz.underlying75 h
  rw [cellsSnap28] at hl
  match cs, hl with
  | [c0, c1, c2, c3], _ =>
    match xs, hxl with
    | [y0, y1, y2, y3], _ =>
      have g0 := hg 0 _ rfl
      have g1 := hg 1 _ rfl
      have g2 := hg 2 _ rfl
      have g3 := hg 3 _ rfl
      simp only [List.getElem_toArray, List.getElem_cons_zero, List.getElem_cons_succ] at g0 g1 g2 g3
      rw [cellsU64] at g0 g1
      rw [cellsInts28] at g2
      rw [cellsBytesW] at g3
      simp only [List.drop_zero, List.drop_succ_cons, List.take_succ_cons, List.take_zero, List.getElem?_cons_zero, List.getElem?_cons_succ] at g0 g1 g2 g3
      obtain ⟨z0, e0, _, w0⟩ := DataW.trod_int Tryz.underlying22 g0
      obtain rfl : c0 = .int .u64 z0 := by simpa using e0
      obtain ⟨z1, e1, _, w1⟩ := DataW.trod_int Tryz.underlying22 g1
      obtain rfl : c1 = .int .u64 z1 := by simpa using e1
      obtain ⟨am, nm, cm, rfl, hm⟩ := open_ints1 g2
      obtain ⟨ad, nd, cd, rfl, hd⟩ := open_bytes1 g3
      have r0 := u64_range w0
      exact ⟨z0.toNat, z1, am, nm, cm, ad, nd, cd, by rw [Int.toNat_of_nonneg r0.1], by rw [Int.toNat_of_nonneg r0.1]; exact r0.2, u64_range w1, hm, hd⟩
set_option maxRecDepth 100000 in
theorem open_state28 {n : Nat} {cs : List Value} {y : DataW H × List MemPlace} (h : DataW.trod enc Tryz.prog W 0 (fun _ => true) true n 97 cs = some y) : ∃ a b : Int, cs = [.int .u64 a, .int .i64 b] /\ 0 <= a /\ a < 18446744073709551616 := by
  obtain ⟨xs, k, _, _, hl, hxl, hg⟩ := DataW.trod_struct Tryz.underlying97 h
  rw [cellsState28] at hl
  match cs, hl with
  | [c0, c1], _ =>
    match xs, hxl with
    | [y0, y1], _ =>
      have g0 := hg 0 _ rfl
      have g1 := hg 1 _ rfl
      simp only [List.getElem_toArray, List.getElem_cons_zero, List.getElem_cons_succ] at g0 g1
      rw [cellsU64] at g0
      rw [cellsInt] at g1
      simp only [List.drop_zero, List.drop_succ_cons, List.take_succ_cons, List.take_zero, List.getElem?_cons_zero, List.getElem?_cons_succ] at g0 g1
      obtain ⟨z0, e0, _, w0⟩ := DataW.trod_int Tryz.underlying22 g0
      obtain rfl : c0 = .int .u64 z0 := by simpa using e0
      obtain ⟨z1, e1, _, w1⟩ := DataW.trod_int Tryz.underlying3 g1
      obtain rfl : c1 = .int .i64 z1 := by simpa using e1
      exact ⟨z0, z1, rfl, u64_range w0⟩
set_option maxHeartbeats 1000000 in
set_option maxRecDepth 100000 in
theorem open_top {n : Nat} {cs : List Value} {y : DataW H × List MemPlace} (h : DataW.trod enc Tryz.prog W 0 (fun _ => true) true n 99 cs = some y) : ∃ r : TOp, cs = topV r /\ TOpOk W r := by
  obtain ⟨xs, k, _, _, hl, hxl, hg⟩ := DataW.trod_struct Tryz.underlying99 h
  rw [cellsTOp] at hl
  match cs, hl with
  | [c0, c1, c2, c3, c4, c5, c6, c7, c8, c9, c10], _ =>
    match xs, hxl with
    | [y0, y1, y2, y3, y4, y5, y6], _ =>
      have g0 := hg 0 _ rfl
      have g1 := hg 1 _ rfl
      have g2 := hg 2 _ rfl
      have g3 := hg 3 _ rfl
      have g4 := hg 4 _ rfl
      have g5 := hg 5 _ rfl
      have g6 := hg 6 _ rfl
      simp only [List.getElem_toArray, List.getElem_cons_zero, List.getElem_cons_succ] at g0 g1 g2 g3 g4 g5 g6
      rw [cellsInt] at g0 g1
      rw [cellsU64] at g2
      rw [cellsEntries] at g3
      rw [cellsState28] at g4
      rw [cellsSnap28] at g5
      rw [cellsTearsW] at g6
      simp only [List.drop_zero, List.drop_succ_cons, List.take_succ_cons, List.take_zero, List.getElem?_cons_zero, List.getElem?_cons_succ] at g0 g1 g2 g3 g4 g5 g6
      obtain ⟨z0, e0, _, w0⟩ := DataW.trod_int Tryz.underlying3 g0
      obtain rfl : c0 = .int .i64 z0 := by simpa using e0
      obtain ⟨z1, e1, _, w1⟩ := DataW.trod_int Tryz.underlying3 g1
      obtain rfl : c1 = .int .i64 z1 := by simpa using e1
      obtain ⟨z2, e2, _, w2⟩ := DataW.trod_int Tryz.underlying22 g2
      obtain rfl : c2 = .int .u64 z2 := by simpa using e2
      obtain ⟨l, hl3⟩ := open_eargs g3
      obtain ⟨st, sv, e4, hs1, hs2⟩ := open_state28 g4
      simp only [List.cons.injEq, and_true] at e4
      obtain ⟨rfl, rfl⟩ := e4
      obtain ⟨i, t, am, nm, cm, ad, nd, cd, e5, hi, ht, hm, hd⟩ := open_snap28 g5
      simp only [List.cons.injEq, and_true] at e5
      obtain ⟨rfl, rfl, rfl, rfl⟩ := e5
      obtain ⟨ts, h6⟩ := open_tears g6
      have r2 := u64_range w2
      refine ⟨⟨z0, z1, z2.toNat, c3, l, st, sv, i, t, am, nm, cm, ad, nd, cd, c10, ts⟩, ?_, ⟨(i64_range w1).2, ?_, hl3, ⟨hs1, hs2⟩, hi, ht, hm, hd, h6⟩⟩
      . unfold topV
        simp only
        rw [Int.toNat_of_nonneg r2.1]
      . simp only
        rw [Int.toNat_of_nonneg r2.1]
        exact r2.2
set_option maxRecDepth 100000 in
theorem open_top1 {base : Nat} {v : Value} {d : DataW H} {ps : List MemPlace} (hv : Value.okWide Tryz.prog W .any base 99 v) (h : DataW.Trod enc Tryz.prog W 0 (fun _ => true) true 99 v d ps) :
    ∃ r : TOp, v = .agg (topV r).toArray /\ TOpOk W r := by
  obtain ⟨cs, rfl, hsz⟩ := okWide_struct Tryz.underlying99 hv
  obtain ⟨fuel, hf⟩ := h
  obtain ⟨r, e, hr⟩ := open_top hf
  refine ⟨r, ?_, hr⟩
  have e' : cs.toList = topV r := e
  obtain ⟨l⟩ := cs
  have e2 : l = topV r := e'
  rw [e2]
end
theorem TOpOk.below {w w' : World} {r : TOp} (h : TOpOk w r) (hb : Below w.heap.size w w') : TOpOk w' r :=
  ⟨h.n, h.a, h.l.below hb, h.st, h.i, h.t, fun e => let ⟨l, h1, h2⟩ := h.m e; ⟨l, h1, h2.below hb⟩, fun e => let ⟨l, h1, h2⟩ := h.d e; ⟨l, h1, h2.below hb⟩, h.ts.below hb⟩
theorem TOpsIs.below {w w' : World} {v : Value} {rs : List TOp} (h : TOpsIs w v rs) (hb : Below w.heap.size w w') : TOpsIs w' v rs := ⟨h.1.below hb, fun r hr => (h.2.1 r hr).below hb, h.2.2⟩
structure TC28 (w : World) (b o : Nat) (r : TOp) : Prop where
  c0 : w.cell? ⟨b, o, none⟩ = some (.int .i64 r.k)
  c1 : w.cell? ⟨b, o + 1, none⟩ = some (.int .i64 r.n)
  c2 : w.cell? ⟨b, o + 2, none⟩ = some (.int .u64 r.a)
  c3 : w.cell? ⟨b, o + 3, none⟩ = some r.lv
  c4 : w.cell? ⟨b, o + 4, none⟩ = some (.int .u64 r.st)
  c5 : w.cell? ⟨b, o + 5, none⟩ = some (.int .i64 r.sv)
  c6 : w.cell? ⟨b, o + 6, none⟩ = some (.int .u64 r.i)
  c7 : w.cell? ⟨b, o + 7, none⟩ = some (.int .u64 r.t)
  c8 : w.cell? ⟨b, o + 8, none⟩ = some (.slice r.am r.nm r.cm)
  c9 : w.cell? ⟨b, o + 9, none⟩ = some (.slice r.ad r.nd r.cd)
  c10 : w.cell? ⟨b, o + 10, none⟩ = some r.tv
theorem TC28.kept {w w' : World} {b o : Nat} {r : TOp} {S : Nat -> Prop} (h : TC28 w b o r) (hk : Kept w w' S) (hs : ¬ S b) : TC28 w' b o r :=
  ⟨hk.cell h.c0 hs, hk.cell h.c1 hs, hk.cell h.c2 hs, hk.cell h.c3 hs, hk.cell h.c4 hs, hk.cell h.c5 hs, hk.cell h.c6 hs, hk.cell h.c7 hs, hk.cell h.c8 hs, hk.cell h.c9 hs, hk.cell h.c10 hs⟩
theorem TC28.below {w w' : World} {b o : Nat} {r : TOp} (h : TC28 w b o r) (hb : Below w.heap.size w w') : TC28 w' b o r := h.kept (Kept.of_below hb (S := fun _ => False) fun k h1 h2 => by omega) (fun h => h)
theorem TC28.box (w : World) (r : TOp) : TC28 (w.alloc (.cells (topV r).toArray 99)) w.heap.size 0 r := by
  unfold topV
  exact ⟨by go_cell, by go_cell, by go_cell, by go_cell, by go_cell, by go_cell, by go_cell, by go_cell, by go_cell, by go_cell, by go_cell⟩
theorem TOpsIs.at {w : World} {a : Option Addr} {n c : Nat} {rs : List TOp} (h : TOpsIs w (.slice a n c) rs) {j : Nat} {r : TOp} (hj : rs[j]? = some r) : ∃ b o, a = some ⟨b, o, none⟩ /\ b < w.heap.size /\ TC28 w b (o + j * 11) r := by
  obtain ⟨hl, he⟩ := List.getElem?_eq_some_iff.1 hj
  obtain ⟨b, o, h1, h2, h3⟩ := h.1.at (j := j) (by rw [List.length_map]; exact hl)
  rw [List.getElem_map, he] at h3
  exact ⟨b, o, h1, h2, by have := h3 0 _ rfl; rwa [Nat.add_zero] at this, h3 1 _ rfl, h3 2 _ rfl, h3 3 _ rfl, h3 4 _ rfl, h3 5 _ rfl, h3 6 _ rfl, h3 7 _ rfl, h3 8 _ rfl, h3 9 _ rfl, h3 10 _ rfl⟩

def tLight1 (r : TOp) : Bool := decide ((r.l.length <= 12 /\ r.ts.length <= 40) /\ (r.nm <= 30 /\ r.nd <= 33000)) && r.l.all (fun e => decide (e.dn <= 5000))
def tLight (rs : List TOp) : Bool := rs.all tLight1 && decide (rs.length <= 60)
theorem tLight_no {rs : List TOp} {r : TOp} (hm : r ∈ rs) (h : ¬ ((r.l.length <= 12 /\ r.ts.length <= 40) /\ (r.nm <= 30 /\ r.nd <= 33000))) : tLight rs = false := by
  unfold tLight
  have : rs.all tLight1 = false := by
    rw [List.all_eq_false]
    refine ⟨r, hm, ?_⟩
    unfold tLight1
    simp [h]
  rw [this]
  rfl
theorem tLight_no2 {rs : List TOp} {r : TOp} {e : EArg} (hm : r ∈ rs) (he : e ∈ r.l) (h : ¬ e.dn <= 5000) : tLight rs = false := by
  unfold tLight
  have : rs.all tLight1 = false := by
    rw [List.all_eq_false]
    refine ⟨r, hm, ?_⟩
    unfold tLight1
    have : r.l.all (fun e => decide (e.dn <= 5000)) = false := by
      rw [List.all_eq_false]
      exact ⟨e, he, by simpa using h⟩
    rw [this]
    simp
  rw [this]
  rfl
theorem tLight1_yes {r : TOp} (h : (r.l.length <= 12 /\ r.ts.length <= 40) /\ (r.nm <= 30 /\ r.nd <= 33000)) (he : ∀ e ∈ r.l, e.dn <= 5000) : tLight1 r = true := by
  unfold tLight1
  have : r.l.all (fun e => decide (e.dn <= 5000)) = true := by
    rw [List.all_eq_true]
    intro e hm
    simpa using he e hm
  rw [this]
  simp [h]
open Go.Maps Go.Shelf in
set_option maxHeartbeats 4000000 in
set_option maxRecDepth 20000 in
theorem tlight_any (v : Value) (rs : List TOp) (w : World) (h : TOpsIs w v rs) : Calls Tryz.prog 40 #[v] w fun e w' => e = .returned (.bool (tLight rs)) /\ Below w.heap.size w w' := by
  obtain ⟨la, lc, rfl, _⟩ := h.1.shape
  rw [List.length_map] at h ⊢
  obtain ⟨n, hn⟩ : ∃ n, rs.length = n := ⟨_, rfl⟩
  have HN := hid hn
  have HL := hid h
  have hmx := h.2.2
  rw [hn] at HL hmx ⊢
  unfold maxLen at hmx
  clear h hn
  go_enter Tryz.func40, Tryz.ntmps40
  go_wp2_with fail
  go_loopw [9] (fun i wr => ∃ j : Nat, i = .int .i64 j /\ j <= n /\ (∀ r ∈ rs.take j, tLight1 r = true) /\ Below w.heap.size w wr) (fun i _ => n - (intOf i).toNat)
  case atStart => exact ⟨0, rfl, by omega, by simp, Below.refl _ _⟩
  case round =>
    obtain ⟨j, rfl, hj, hall, hb⟩ := hrel
    have BR := hid hb
    have HA := hid hall
    clear hb hall
    by_cases hlt : j < n
    . obtain ⟨r, hr, hm⟩ := getAtW (l := rs) (j := j) (by rw [HN.out]; exact hlt)
      obtain ⟨b, o, rfl, hbl, hc⟩ := (HL.out.below BR.out).at hr
      obtain ⟨ta, tc, htv, _⟩ := ((HL.out.2.1 r hm).ts).1.shape
      have HE := hid (((HL.out.2.1 r hm).below BR.out).l)
      obtain ⟨ea, ec, hev, _⟩ := HE.out.1.shape
      rw [List.length_map] at htv hev
      have hmx2 := HE.out.2.2
      unfold maxLen at hmx2
      have HR := hid hr
      have HM := hid hm
      obtain ⟨rk, rn, ra, rlv, rl, rst, rsv, ri, rt, am, nm, cm, ad, nd, cd, rtv, rts⟩ := r
      simp only at htv hev HE hmx2 hc
      subst htv hev
      obtain ⟨m, hm'⟩ : ∃ m, rts.length = m := ⟨_, rfl⟩
      obtain ⟨q, hq⟩ : ∃ q, rl.length = q := ⟨_, rfl⟩
      have HT := hid hm'
      have HQ := hid hq
      rw [hm'] at hc HR HM
      rw [hq] at HE hmx2 hc HR HM
      obtain ⟨x0, x1, x2, x3, x4, x5, x6, x7, x8, x9, x10⟩ := hc
      simp only at x0 x1 x2 x3 x4 x5 x6 x7 x8 x9 x10
      clear hr hm hm' hq
      have HNO : Hid (¬ ((q <= 12 /\ m <= 40) /\ (nm <= 30 /\ nd <= 33000)) -> tLight rs = false) := hid (fun hno => tLight_no HM.out (by simp only; rw [HQ.out, HT.out]; exact hno))
      by_cases h12 : q <= 12
      . have b0 : ¬ (12 : Int) < (q : Int) := by omega
        by_cases h40 : m <= 40
        . have b1 : ¬ (40 : Int) < (m : Int) := by omega
          go_wp2_with fail
          generalize hwx : World.alloc wr _ = wx
          have BX : Hid (Below w.heap.size w wx) := hid (by subst hwx; exact BR.out.alloc BR.out.size _)
          have LX : Hid (Below wr.heap.size wr wx) := hid (by subst hwx; exact (Below.refl _ _).alloc (Nat.le_refl _) _)
          have EX := hid (HE.out.below LX.out)
          have y3 : wx.cell? ⟨wr.heap.size, 3, none⟩ = some (.slice ea q ec) := by subst hwx; go_cell
          have hsz : wr.heap.size < wx.heap.size := World.block_lt_of_cell? _ _ y3
          clear hwx x0 x1 x2 x3 x4 x5 x6 x7 x8 x9 x10
          by_cases hli : nm <= 30 /\ nd <= 33000
          . refine (light1_yes ri rt am ad nm cm nd cd _ hli.1 hli.2).mono ?_
            rintro e w2 ⟨rfl, hb2⟩
            have BX2 := hid (BX.out.trans (hb2.mono BX.out.size))
            have EX2 := hid (EX.out.below hb2)
            have y3' := Below.at hb2 y3 hsz
            have hsz2 : wr.heap.size < w2.heap.size := World.block_lt_of_cell? _ _ y3'
            clear hb2 y3 hsz BX EX LX
            go_wp2_with fail
            go_loopw [32] (fun i wz => ∃ k : Nat, i = .int .i64 k /\ k <= q /\ (∀ e ∈ rl.take k, e.dn <= 5000) /\ Below w2.heap.size w2 wz) (fun i _ => q - (intOf i).toNat)
            case atStart => exact ⟨0, rfl, by omega, by simp, Below.refl _ _⟩
            case round =>
              obtain ⟨k, rfl, hk, hall2, hb2⟩ := hrel
              have BZ := hid hb2
              have HA2 := hid hall2
              clear hb2 hall2
              by_cases hlt2 : k < q
              . obtain ⟨e, he, hme⟩ := getAtW (l := rl) (j := k) (by rw [HQ.out]; exact hlt2)
                obtain ⟨b2, o2, rfl, hbl2, z0, z1, z2⟩ := (EX2.out.below BZ.out).at he
                have HEE := hid he
                have HME := hid hme
                clear he hme
                by_cases h5 : e.dn <= 5000
                . have b5 : ¬ (5000 : Int) < (e.dn : Int) := by omega
                  go_wp2_with fail
                  go_roundw
                  case rel =>
                    refine ⟨k + 1, by first | rfl | go_num, by omega, fun p hp => ?_, BZ.out.alloc BZ.out.size _⟩
                    rw [List.take_add_one, HEE.out] at hp
                    rcases List.mem_append.1 hp with hp | hp
                    . exact HA2.out p hp
                    . obtain rfl := List.mem_singleton.1 hp
                      exact h5
                  all_goals (show q - ((k : Int) + 1).toNat < q - ((k : Int)).toNat; omega)
                . have b5 : (5000 : Int) < (e.dn : Int) := by omega
                  have HV : Hid (tLight rs = false) := hid (tLight_no2 HM.out HME.out h5)
                  go_wp2_with fail
                  go_ret
                  exact ⟨by rw [HV.out]; rfl, BX2.out.trans ((BZ.out.alloc BZ.out.size _).mono BX2.out.size)⟩
              . obtain rfl : k = q := by omega
                have H1 : Hid (tLight1 ⟨rk, rn, ra, .slice ea k ec, rl, rst, rsv, ri, rt, am, nm, cm, ad, nd, cd, .slice ta m tc, rts⟩ = true) := hid (tLight1_yes (by simp only; rw [HQ.out, HT.out]; exact ⟨⟨h12, h40⟩, hli⟩) (fun e he => HA2.out e (by rw [List.take_of_length_le (by rw [HQ.out]; exact Nat.le_refl _)]; exact he)))
                go_wp2_with fail
                go_roundw
                case rel =>
                  refine ⟨j + 1, by first | rfl | go_num, by omega, fun p hp => ?_, BX2.out.trans (BZ.out.mono BX2.out.size)⟩
                  rw [List.take_add_one, HR.out] at hp
                  rcases List.mem_append.1 hp with hp | hp
                  . exact HA.out p hp
                  . obtain rfl := List.mem_singleton.1 hp
                    exact H1.out
                all_goals (show n - ((j : Int) + 1).toNat < n - ((j : Int)).toNat; omega)
          . have HV : Hid (tLight rs = false) := hid (HNO.out (fun q => hli q.2))
            refine (light1_no ri rt am ad nm cm nd cd _ hli).mono ?_
            rintro e w2 ⟨rfl, hb2⟩
            have BX2 := hid (BX.out.trans (hb2.mono BX.out.size))
            clear hb2
            go_wp2_with fail
            go_ret
            exact ⟨by rw [HV.out]; rfl, BX2.out⟩
        . have b1 : (40 : Int) < (m : Int) := by omega
          have HV : Hid (tLight rs = false) := hid (HNO.out (fun q => h40 q.1.2))
          go_wp2_with fail
          go_ret
          exact ⟨by rw [HV.out]; rfl, BR.out.alloc BR.out.size _⟩
      . have b0 : (12 : Int) < (q : Int) := by omega
        have HV : Hid (tLight rs = false) := hid (HNO.out (fun q => h12 q.1.1))
        go_wp2_with fail
        go_ret
        exact ⟨by rw [HV.out]; rfl, BR.out.alloc BR.out.size _⟩
    . obtain rfl : j = n := by omega
      have hal : rs.all tLight1 = true := by
        rw [List.all_eq_true]
        intro r hr
        exact HA.out r (by rw [List.take_of_length_le (by rw [HN.out]; exact Nat.le_refl _)]; exact hr)
      by_cases h1 : j <= 60
      . have b1 : (j : Int) <= 60 := by omega
        have HV : Hid (tLight rs = true) := hid (by unfold tLight; rw [hal, HN.out]; simpa using h1)
        clear hal
        go_wp2_with fail
        go_ret
        exact ⟨by rw [HV.out]; rfl, BR.out⟩
      . have b1 : ¬ (j : Int) <= 60 := by omega
        have HV : Hid (tLight rs = false) := hid (by unfold tLight; rw [hal, HN.out]; simpa using h1)
        clear hal
        go_wp2_with fail
        go_ret
        exact ⟨by rw [HV.out]; rfl, BR.out⟩
end Go.Proofs.YtjdglpcnkiioeaaGreat
namespace Go.Proofs.YtjdglpcnkiioeaaGreat
open Go.Lib (hid)
open Go.RowKit Go.Maps Go.Proofs.Own Go.Shelf

set_option maxHeartbeats 4000000 in
set_option maxRecDepth 20000 in
theorem tcall_br {w : World} {b : VB} {ev fv : Value} {el : EntR} {D : DiskS} {V : VltS} (h : VaultAt w b ev fv el D V) (hb : V.br = true) (k n : Int) (a : Nat) (ea : Option Addr) (en ec : Nat) (st sv : Int) (i : Nat) (t : Int) (am ad : Option Addr) (nm cm nd cd : Nat) (tv : Value) :
    Calls Tryz.prog 44 #[.pointer (some ⟨b.vb, 0, none⟩), .agg #[.int .i64 k, .int .i64 n, .int .u64 a, .slice ea en ec, .int .u64 st, .int .i64 sv, .int .u64 i, .int .u64 t, .slice am nm cm, .slice ad nd cd, tv]] w fun e w' => e = .returned (.int .i64 50) /\ Below w.heap.size w w' := by
  obtain ⟨W1, hW1⟩ : ∃ W1 : World, W1 = w.alloc (.cells #[.int .i64 k, .int .i64 n, .int .u64 a, .slice ea en ec, .int .u64 st, .int .i64 sv, .int .u64 i, .int .u64 t, .slice am nm cm, .slice ad nd cd, tv] 99) := ⟨_, rfl⟩
  have B : Hid (Below w.heap.size w W1) := hid (by subst hW1; exact (Below.refl _ _).alloc (Nat.le_refl _) _)
  have H1 := hid (h.below B.out)
  have HB := hid hb
  clear hb
  have x0 : W1.cell? ⟨w.heap.size, 0, none⟩ = some (.int .i64 k) := by subst hW1; go_cell
  have x2 : W1.cell? ⟨w.heap.size, 2, none⟩ = some (.int .u64 a) := by subst hW1; go_cell
  have x3 : W1.cell? ⟨w.heap.size, 3, none⟩ = some (.slice ea en ec) := by subst hW1; go_cell
  have x4 : W1.cell? ⟨w.heap.size, 4, none⟩ = some (.int .u64 st) := by subst hW1; go_cell
  have x5 : W1.cell? ⟨w.heap.size, 5, none⟩ = some (.int .i64 sv) := by subst hW1; go_cell
  have x6 : W1.cell? ⟨w.heap.size, 6, none⟩ = some (.int .u64 i) := by subst hW1; go_cell
  have x7 : W1.cell? ⟨w.heap.size, 7, none⟩ = some (.int .u64 t) := by subst hW1; go_cell
  have x8 : W1.cell? ⟨w.heap.size, 8, none⟩ = some (.slice am nm cm) := by subst hW1; go_cell
  have x9 : W1.cell? ⟨w.heap.size, 9, none⟩ = some (.slice ad nd cd) := by subst hW1; go_cell
  clear h
  by_cases h1 : k = 1
  . have b1 : (k == 1) = true := beq_iff_eq.2 h1
    clear h1
    go_enter Tryz.func44, Tryz.ntmps44
    go_wp2_with fail
    rw [<- hW1]
    go_wp2_with fail
    refine (vlt_cut_br H1.out HB.out a).mono ?_
    rintro e w2 ⟨rfl, rfl⟩
    go_wp2_with fail
    go_ret
    exact ⟨rfl, by rw [<- hW1]; exact B.out⟩
  . have b1 : (k == 1) = false := beq_eq_false_iff_ne.2 h1
    clear h1
    by_cases h2 : k = 2
    . have b2 : (k == 2) = true := beq_iff_eq.2 h2
      clear h2
      go_enter Tryz.func44, Tryz.ntmps44
      go_wp2_with fail
      rw [<- hW1]
      go_wp2_with fail
      refine (vlt_keep_br H1.out HB.out st sv).mono ?_
      rintro e w2 ⟨rfl, hb2⟩
      have B2 : Hid (Below w.heap.size w w2) := hid (B.out.trans (hb2.mono B.out.size))
      clear hb2
      go_wp2_with fail
      go_ret
      exact ⟨rfl, B2.out⟩
    . have b2 : (k == 2) = false := beq_eq_false_iff_ne.2 h2
      clear h2
      by_cases h3 : k = 3
      . have b3 : (k == 3) = true := beq_iff_eq.2 h3
        clear h3
        go_enter Tryz.func44, Tryz.ntmps44
        go_wp2_with fail
        rw [<- hW1]
        go_wp2_with fail
        refine (vlt_save_br H1.out HB.out i t am ad nm cm nd cd).mono ?_
        rintro e w2 ⟨rfl, hb2⟩
        have B2 : Hid (Below w.heap.size w w2) := hid (B.out.trans (hb2.mono B.out.size))
        clear hb2
        go_wp2_with fail
        go_ret
        exact ⟨rfl, B2.out⟩
      . have b3 : (k == 3) = false := beq_eq_false_iff_ne.2 h3
        clear h3
        go_enter Tryz.func44, Tryz.ntmps44
        go_wp2_with fail
        rw [<- hW1]
        go_wp2_with fail
        refine (vlt_append_br H1.out HB.out ea en ec).mono ?_
        rintro e w2 ⟨rfl, rfl⟩
        go_wp2_with fail
        go_ret
        exact ⟨rfl, by rw [<- hW1]; exact B.out⟩
set_option maxHeartbeats 4000000 in
set_option maxRecDepth 20000 in
theorem tcall_nil {w : World} {p : Option Addr} (h : NilV w p) (k n : Int) (a : Nat) (ea : Option Addr) (en ec : Nat) (st sv : Int) (i : Nat) (t : Int) (am ad : Option Addr) (nm cm nd cd : Nat) (tv : Value) :
    Calls Tryz.prog 44 #[.pointer p, .agg #[.int .i64 k, .int .i64 n, .int .u64 a, .slice ea en ec, .int .u64 st, .int .i64 sv, .int .u64 i, .int .u64 t, .slice am nm cm, .slice ad nd cd, tv]] w fun e w' => e = .returned (.int .i64 1) /\ Below w.heap.size w w' := by
  obtain ⟨W1, hW1⟩ : ∃ W1 : World, W1 = w.alloc (.cells #[.int .i64 k, .int .i64 n, .int .u64 a, .slice ea en ec, .int .u64 st, .int .i64 sv, .int .u64 i, .int .u64 t, .slice am nm cm, .slice ad nd cd, tv] 99) := ⟨_, rfl⟩
  have B : Hid (Below w.heap.size w W1) := hid (by subst hW1; exact (Below.refl _ _).alloc (Nat.le_refl _) _)
  have H1 := hid (h.below B.out)
  have x0 : W1.cell? ⟨w.heap.size, 0, none⟩ = some (.int .i64 k) := by subst hW1; go_cell
  have x2 : W1.cell? ⟨w.heap.size, 2, none⟩ = some (.int .u64 a) := by subst hW1; go_cell
  have x3 : W1.cell? ⟨w.heap.size, 3, none⟩ = some (.slice ea en ec) := by subst hW1; go_cell
  have x4 : W1.cell? ⟨w.heap.size, 4, none⟩ = some (.int .u64 st) := by subst hW1; go_cell
  have x5 : W1.cell? ⟨w.heap.size, 5, none⟩ = some (.int .i64 sv) := by subst hW1; go_cell
  have x6 : W1.cell? ⟨w.heap.size, 6, none⟩ = some (.int .u64 i) := by subst hW1; go_cell
  have x7 : W1.cell? ⟨w.heap.size, 7, none⟩ = some (.int .u64 t) := by subst hW1; go_cell
  have x8 : W1.cell? ⟨w.heap.size, 8, none⟩ = some (.slice am nm cm) := by subst hW1; go_cell
  have x9 : W1.cell? ⟨w.heap.size, 9, none⟩ = some (.slice ad nd cd) := by subst hW1; go_cell
  clear h
  by_cases h1 : k = 1
  . have b1 : (k == 1) = true := beq_iff_eq.2 h1
    clear h1
    go_enter Tryz.func44, Tryz.ntmps44
    go_wp2_with fail
    rw [<- hW1]
    go_wp2_with fail
    refine (nv_cut H1.out a).mono ?_
    rintro e w2 ⟨rfl, hb2⟩
    have B2 : Hid (Below w.heap.size w w2) := hid (B.out.trans (hb2.mono B.out.size))
    clear hb2
    go_wp2_with fail
    go_ret
    exact ⟨rfl, B2.out⟩
  . have b1 : (k == 1) = false := beq_eq_false_iff_ne.2 h1
    clear h1
    by_cases h2 : k = 2
    . have b2 : (k == 2) = true := beq_iff_eq.2 h2
      clear h2
      go_enter Tryz.func44, Tryz.ntmps44
      go_wp2_with fail
      rw [<- hW1]
      go_wp2_with fail
      refine (nv_keep H1.out st sv).mono ?_
      rintro e w2 ⟨rfl, hb2⟩
      have B2 : Hid (Below w.heap.size w w2) := hid (B.out.trans (hb2.mono B.out.size))
      clear hb2
      go_wp2_with fail
      go_ret
      exact ⟨rfl, B2.out⟩
    . have b2 : (k == 2) = false := beq_eq_false_iff_ne.2 h2
      clear h2
      by_cases h3 : k = 3
      . have b3 : (k == 3) = true := beq_iff_eq.2 h3
        clear h3
        go_enter Tryz.func44, Tryz.ntmps44
        go_wp2_with fail
        rw [<- hW1]
        go_wp2_with fail
        refine (nv_save H1.out i t am ad nm cm nd cd).mono ?_
        rintro e w2 ⟨rfl, hb2⟩
        have B2 : Hid (Below w.heap.size w w2) := hid (B.out.trans (hb2.mono B.out.size))
        clear hb2
        go_wp2_with fail
        go_ret
        exact ⟨rfl, B2.out⟩
      . have b3 : (k == 3) = false := beq_eq_false_iff_ne.2 h3
        clear h3
        go_enter Tryz.func44, Tryz.ntmps44
        go_wp2_with fail
        rw [<- hW1]
        go_wp2_with fail
        refine (nv_append H1.out ea en ec).mono ?_
        rintro e w2 ⟨rfl, hb2⟩
        have B2 : Hid (Below w.heap.size w w2) := hid (B.out.trans (hb2.mono B.out.size))
        clear hb2
        go_wp2_with fail
        go_ret
        exact ⟨rfl, B2.out⟩

theorem TX.reopen {w0 cw cw' : World} {b b' : VB} {xb : Nat} {D D' : DiskS} {V V' : VltS} {ev fv : Value} {el : EntR} (h : TX w0 cw b xb D V) (hv : VaultAt cw' b' ev fv el D' V') (hk : Kept cw cw' (Own3 b.db b.mb b.tb)) (ho : ∀ k, VOwn b' ev fv k -> Own3 b.db b.mb b.tb k \/ cw.heap.size <= k) : TX w0 cw' b' xb D' V' := by
  obtain ⟨ev0, fv0, el0, h1, h2, h3⟩ := h.vlt
  have hoo : ∀ k, Own3 b.db b.mb b.tb k -> VOwn b ev0 fv0 k := fun k e => .inr (.inr (.inr (.inr (.inl e))))
  refine ⟨⟨ev, fv, el, hv, fun k hk => ?_, fun hk => ?_⟩, h.box.kept hk (fun e => h3 (hoo _ e)), h.bel.trans (hk.below h.bel.size fun k e => h2 k (hoo k e))⟩
  . rcases ho k hk with e | e
    . exact h2 k (hoo k e)
    . have := h.bel.size; omega
  . rcases ho xb hk with e | e
    . exact h3 (hoo _ e)
    . have := h.box.lt; omega
theorem srow_top1 (w : World) (r : TOp) (t : TypeId) : SRow (w.alloc (.cells (topV r).toArray t)) 11 (.slice (some ⟨w.heap.size, 0, none⟩) 1 1) [topV r] := by
  refine ⟨_, _, rfl, Nat.le_refl _, fun j hj => ?_⟩
  obtain rfl : j = 0 := by simpa using hj
  refine ⟨w.heap.size, 0, rfl, by simp, fun i u hu => ?_⟩
  have hu' : (topV r)[i]? = some u := hu
  have hlt : i < 11 := (List.getElem?_eq_some_iff.1 hu').1
  unfold topV at hu' ⊢
  match i, hlt, hu' with
  | 0, _, hu' => obtain rfl : _ = u := by simpa using hu'
                 go_cell
  | 1, _, hu' => obtain rfl : _ = u := by simpa using hu'
                 go_cell
  | 2, _, hu' => obtain rfl : _ = u := by simpa using hu'
                 go_cell
  | 3, _, hu' => obtain rfl : _ = u := by simpa using hu'
                 go_cell
  | 4, _, hu' => obtain rfl : _ = u := by simpa using hu'
                 go_cell
  | 5, _, hu' => obtain rfl : _ = u := by simpa using hu'
                 go_cell
  | 6, _, hu' => obtain rfl : _ = u := by simpa using hu'
                 go_cell
  | 7, _, hu' => obtain rfl : _ = u := by simpa using hu'
                 go_cell
  | 8, _, hu' => obtain rfl : _ = u := by simpa using hu'
                 go_cell
  | 9, _, hu' => obtain rfl : _ = u := by simpa using hu'
                 go_cell
  | 10, _, hu' => obtain rfl : _ = u := by simpa using hu'
                  go_cell
theorem b6 : ∃ D5 L5, openW (goneD dB4).1 0 = (D5, some L5, 0) /\ CutI D5 L5 /\ L5.last <= H59 /\ L5.es.length <= 131072 /\ atW L5 0 = none /\ D5.steps + 1000 <= 1000000000 /\ (appendV D5 ⟨0, -1, zeroS, L5, false⟩ (List.replicate 1 xE)).2.2 = 0 /\ (appendV D5 ⟨0, -1, zeroS, L5, false⟩ (List.replicate 1 xE)).2.1.L.last = 2 := by
  obtain ⟨D5, L5, h1, h2, h3, h4⟩ := b5
  have hn := b5n
  unfold rB5 at hn
  rw [h1] at hn
  have hn' := Option.some.inj hn
  obtain ⟨P, hi⟩ := h2.inv
  exact ⟨D5, L5, by rw [b4.2.2.2]; exact h1, h2, hi.hi, (hi.lok h2.good).2, if_pos (Nat.zero_le _), h4, congrArg Prod.fst hn', congrArg Prod.snd hn'⟩
theorem hB1 : appendV dB vX (List.replicate 1 xE) = rB1 := rfl
theorem hB3 : appendV dB2 rB1.2.1 (List.replicate 1 xE) = rB3 := rfl
set_option maxHeartbeats 8000000 in
set_option maxRecDepth 20000 in
theorem tbroken_any (r : TOp) (w : World) (hr : TOpOk w r) : Calls Tryz.prog 7 #[.agg (topV r).toArray] w fun e w' => e = .returned (.bool true) /\ Below w.heap.size w w' := by
  obtain ⟨rk, rn, ra, rlv, rl, rst, rsv, ri, rt, am, nm, cm, ad, nd, cd, rtv, rts⟩ := r
  obtain ⟨ea, ec, hev, _⟩ := hr.l.1.shape
  obtain ⟨ta', tc', htv, _⟩ := hr.ts.1.shape
  simp only at hev htv
  subst hev htv
  obtain ⟨tn', htn⟩ : ∃ tn', (rts.map tearV).length = tn' := ⟨_, rfl⟩
  obtain ⟨en, hen⟩ : ∃ en, (rl.map earV).length = en := ⟨_, rfl⟩
  rw [hen, htn] at hr ⊢
  have HR := hid hr
  clear hr htn hen
  obtain ⟨W2, hW2⟩ : ∃ W2 : World, W2 = (w.alloc (.cells (topV ⟨rk, rn, ra, .slice ea en ec, rl, rst, rsv, ri, rt, am, nm, cm, ad, nd, cd, .slice ta' tn' tc', rts⟩).toArray 99)).alloc (.cells (topV ⟨rk, rn, ra, .slice ea en ec, rl, rst, rsv, ri, rt, am, nm, cm, ad, nd, cd, .slice ta' tn' tc', rts⟩).toArray 99) := ⟨_, rfl⟩
  have B : Hid (Below w.heap.size w W2) := hid (by subst hW2; exact ((Below.refl _ _).alloc (Nat.le_refl _) _).alloc (by simp) _)
  have HO : Hid (TOpsIs W2 (.slice (some ⟨w.heap.size + 1, 0, none⟩) 1 1) [⟨rk, rn, ra, .slice ea en ec, rl, rst, rsv, ri, rt, am, nm, cm, ad, nd, cd, .slice ta' tn' tc', rts⟩]) := hid (by
    refine ⟨?_, fun r h => ?_, by show 1 <= maxLen; decide⟩
    . have h := srow_top1 (w.alloc (.cells (topV ⟨rk, rn, ra, .slice ea en ec, rl, rst, rsv, ri, rt, am, nm, cm, ad, nd, cd, .slice ta' tn' tc', rts⟩).toArray 99)) ⟨rk, rn, ra, .slice ea en ec, rl, rst, rsv, ri, rt, am, nm, cm, ad, nd, cd, .slice ta' tn' tc', rts⟩ 99
      have e : (w.alloc (.cells (topV ⟨rk, rn, ra, .slice ea en ec, rl, rst, rsv, ri, rt, am, nm, cm, ad, nd, cd, .slice ta' tn' tc', rts⟩).toArray 99)).heap.size = w.heap.size + 1 := by simp
      rw [<- hW2, e] at h
      exact h
    . obtain rfl := List.mem_singleton.1 h
      exact HR.out.below B.out)
  have CO : Hid (TC28 W2 w.heap.size 0 ⟨rk, rn, ra, .slice ea en ec, rl, rst, rsv, ri, rt, am, nm, cm, ad, nd, cd, .slice ta' tn' tc', rts⟩) := hid (by
    subst hW2
    exact (TC28.box w _).below ((Below.refl _ _).alloc (Nat.le_refl _) _))
  clear HR
  simp only [topV] at hW2 ⊢
  go_enter Tryz.func7, Tryz.ntmps7
  go_wp2_with fail
  rw [<- hW2]
  refine (tlight_any _ _ W2 HO.out).mono ?_
  rintro e w1 ⟨rfl, hb1⟩
  have B1 : Hid (Below w.heap.size w w1) := hid (B.out.trans (hb1.mono B.out.size))
  have C1 := hid (CO.out.below hb1)
  clear hb1 HO CO hW2 B
  generalize w.heap.size = ob at C1 ⊢
  cases hc : tLight [⟨rk, rn, ra, .slice ea en ec, rl, rst, rsv, ri, rt, am, nm, cm, ad, nd, cd, .slice ta' tn' tc', rts⟩] with
  | false =>
    clear hc
    go_wp2_with fail
    refine (tlives_any _).mono ?_
    rintro e w2 ⟨rfl, hb2⟩
    have B2 : Hid (Below w.heap.size w w2) := hid (B1.out.trans (hb2.mono B1.out.size))
    clear hb2
    go_wp2_with fail
    go_ret
    exact ⟨rfl, B2.out⟩
  | true =>
    clear hc
    go_wp2_with fail
    refine (dnew 2000 w1 (by decide) (by decide)).mono ?_
    rintro e w2 ⟨db, mb, tb, rfl, hd2, hb2, h1, h2, h3⟩
    have D2 : Hid (DiskIs w2 db mb tb dB) := hid hd2
    have L2 := hid hb2
    have HO3 : Hid (∀ k, Own3 db mb tb k -> w1.heap.size <= k) := hid (by rintro k (rfl | rfl | rfl) <;> assumption)
    clear hd2 hb2 h1 h2 h3
    go_wp2_with fail
    have WO := vlt_open_n D2.out b_good (by decide) b_open.1 b_open.2.1 b_open.2.2.1 b_open.2.2.2 (by decide) (by decide) rfl
    rw [b_st] at WO
    refine WO.mono ?_
    clear WO
    rintro e w3 ⟨b, ev, fv, el, rfl, e1, e2, e3, hv, hk3, ho⟩
    have HV := hid hv
    have HK := hid hk3
    have HOW := hid ho
    have HE : Hid (b.db = db /\ b.mb = mb /\ b.tb = tb) := hid ⟨e1, e2, e3⟩
    clear hv hk3 ho e1 e2 e3
    go_wp2_with fail
    generalize hw4 : World.alloc w3 _ = w4
    have TX4 : Hid (TX w1 w4 b w3.heap.size dB vX) := hid (tx_open L2.out HO3.out HV.out HK.out HOW.out hw4.symm)
    have HSZ : Hid (w4.heap.size = w3.heap.size + 1) := hid (by subst hw4; simp)
    clear hw4 HV HK HOW D2 L2 HO3
    generalize w3.heap.size = xb at *
    obtain ⟨rfl, rfl, rfl⟩ := HE.out
    obtain ⟨q0, q1, q2, _, _, _⟩ := TX4.out.box
    have ee : ((rB1.2.2 : Nat) : Int) = 0 := by rw [b1.1]; rfl
    go_wp2_with fail
    have WP := tx_append (n := 1) TX4.out (y_row1 w4) (by decide) b_cut (by decide) rfl
    rw [hB1, ee, HSZ.out] at WP
    refine WP.mono ?_
    clear WP ee q0 q1 q2
    rintro e w5 ⟨rfl, h5⟩
    have TX5 := hid h5
    clear h5
    have ea0 : (((armD rB1.1 0).2 : Nat) : Int) = 0 := by rw [b2.1]; rfl
    have WA := darm_any b.db b.mb b.tb rB1.1 0 w5 TX5.out.disk
    unfold OpPost at WA
    rw [ea0] at WA
    have HWA := hid WA
    clear WA ea0
    go_wp2_with fail
    refine HWA.out.mono ?_
    rintro e w6 ⟨rfl, hd6, hk6⟩
    have TX6 : Hid (TX w1 w6 b xb dB2 rB1.2.1) := hid (TX5.out.disked hd6 hk6)
    clear hd6 hk6 HWA
    obtain ⟨q0, q1, q2, _, _, _⟩ := TX6.out.box
    have ee : ((rB3.2.2 : Nat) : Int) = 50 := by rw [b3.1]; rfl
    go_wp2_with fail
    have WP := tx_append (n := 1) TX6.out (y_row1 w6) (by decide) b2c.1 (by have := b2c.2; omega) b1.2.1
    rw [hB3, ee] at WP
    refine WP.mono ?_
    clear WP ee q0 q1 q2
    rintro e w7 ⟨rfl, h7⟩
    have TX7 := hid h7
    clear h7
    obtain ⟨ev7, fv7, el7, hv7, _, _⟩ := TX7.out.vlt
    have WR := vlt_broken hv7
    rw [b3.2.1] at WR
    have HWR := hid WR
    clear WR hv7
    go_wp2_with fail
    refine HWR.out.mono ?_
    rintro e w7 ⟨rfl, rfl⟩
    clear HWR
    go_wp2_with fail
    refine (dcrash_any b.db b.mb b.tb rB3.1 (.slice none 0 0) [] _ TX7.out.disk b3g.1 (TearsIs.nil _) (.inl rfl)).mono ?_
    rintro e w8 ⟨rfl, hd8, hk8⟩
    have TX8 := hid (TX7.out.disked hd8 hk8)
    clear hd8 hk8
    go_wp2_with fail
    refine (dboot_any b.db b.mb b.tb _ w8 TX8.out.disk).mono ?_
    rintro e w9 ⟨rfl, hd9, hk9⟩
    have TX9 : Hid (TX w1 w9 b xb dB4 rB3.2.1) := hid (TX8.out.disked hd9 hk9)
    clear hd9 hk9 TX8
    obtain ⟨x0, x1, x2, x3, x4, x5, x6, x7, x8, x9, x10⟩ := C1.out.below TX9.out.bel
    simp only [Nat.zero_add] at x0 x1 x2 x3 x4 x5 x6 x7 x8 x9 x10
    obtain ⟨ev9, fv9, el9, hv9, _, _⟩ := TX9.out.vlt
    have HV9 := hid hv9
    clear hv9
    go_wp2_with fail
    refine (tcall_br HV9.out b3.2.1 rk rn ra ea en ec rst rsv ri rt am ad nm cm nd cd (.slice ta' tn' tc')).mono ?_
    rintro e w10 ⟨rfl, hb10⟩
    have TX10 := hid (TX9.out.below hb10)
    have WR := vlt_broken (HV9.out.below hb10)
    rw [b3.2.1] at WR
    have HWR := hid WR
    clear hb10 WR HV9 x0 x1 x2 x3 x4 x5 x6 x7 x8 x9 x10
    go_wp2_with fail
    refine HWR.out.mono ?_
    rintro e w11 ⟨rfl, rfl⟩
    clear HWR
    obtain ⟨D5, L5, g1, g2, g3, g4, g5, g6, g7, g8⟩ := b6
    have HG2 := hid g2
    have HG6 := hid g6
    have HG7 : Hid ((((appendV D5 ⟨0, -1, zeroS, L5, false⟩ (List.replicate 1 xE)).2.2 : Nat) : Int) = 0) := hid (by rw [g7]; rfl)
    have HG8 : Hid ((((appendV D5 ⟨0, -1, zeroS, L5, false⟩ (List.replicate 1 xE)).2.1.L.last : Nat) : Int) = 2) := hid (by rw [g8]; rfl)
    have HWO := hid (vlt_open_n TX10.out.disk b4g.1 (by have := b4g.2; omega) b4.1 b4.2.1 b4.2.2.1 g1 g3 (by omega) g5)
    clear g1 g2 g3 g4 g5 g6 g7 g8
    go_wp2_with fail
    have WO := HWO.out
    rw [b4s] at WO
    refine WO.mono ?_
    clear WO HWO
    rintro e w12 ⟨b', ev', fv', el', rfl, e1, e2, e3, hv12, hk12, ho12⟩
    have TX12 := hid (TX10.out.reopen hv12 hk12 ho12)
    have HV12 := hid hv12
    clear e1 e2 e3 hv12 hk12 ho12 TX10 TX9
    go_wp2_with fail
    refine (vlt_broken HV12.out).mono ?_
    rintro e w13 ⟨rfl, rfl⟩
    dsimp only
    clear HV12
    obtain ⟨q0, q1, q2, _, _, _⟩ := TX12.out.box
    go_wp2_with fail
    have WP' := tx_append (n := 1) TX12.out (y_row1 _) (by decide) HG2.out (by have := HG6.out; omega) rfl
    rw [HG7.out] at WP'
    refine WP'.mono ?_
    clear WP' q0 q1 q2
    rintro e w14 ⟨rfl, h14⟩
    have TX14 := hid h14
    obtain ⟨ev14, fv14, el14, hv14, _, _⟩ := h14.vlt
    have WL := vlt_last hv14 (by rw [HG8.out]; decide)
    rw [HG8.out] at WL
    have HWL := hid WL
    clear WL h14 hv14
    go_wp2_with fail
    refine HWL.out.mono ?_
    rintro e w15 ⟨rfl, hb15⟩
    have B15 : Hid (Below w.heap.size w w15) := hid (B1.out.trans ((TX14.out.bel.trans (hb15.mono TX14.out.bel.size)).mono B1.out.size))
    have C15 := hid (C1.out.below (TX14.out.bel.trans (hb15.mono TX14.out.bel.size)))
    clear hb15 HWL TX14 TX12 TX7 TX6 TX5 TX4 C1 B1
    go_wp2_with fail
    generalize hw16 : World.alloc (World.alloc w15 _) _ = w16
    have A16 : Hid (Below w15.heap.size w15 w16) := hid (by subst hw16; exact ((Below.refl _ _).alloc (Nat.le_refl _) _).alloc (by simp) _)
    have B16 : Hid (Below w.heap.size w w16) := hid (B15.out.trans (A16.out.mono B15.out.size))
    have C16 := hid (C15.out.below A16.out)
    have N16 : Hid (VC w16 w15.heap.size none none none /\ w16.cell? ⟨w15.heap.size + 1, 0, none⟩ = some (.pointer none) /\ w16.cell? ⟨w15.heap.size + 1, 1, none⟩ = some (.pointer (some ⟨w15.heap.size, 0, none⟩))) := hid (by
      subst hw16
      exact ⟨(VC.new w15).below ((Below.refl _ _).alloc (Nat.le_refl _) _), by go_cell, by go_cell⟩)
    clear hw16 B15 C15 A16
    generalize w15.heap.size = lb at *
    go_loopw [98] (fun i wr => ∃ j : Nat, j <= 2 /\ i = .int .i64 j /\ Below w16.heap.size w16 wr) (fun i _ => 2 - (intOf i).toNat)
    case atStart => exact ⟨0, by omega, rfl, Below.refl _ _⟩
    case round =>
      obtain ⟨j, hj, rfl, hb⟩ := hrel
      have BR := hid hb
      have CR := hid (C16.out.below hb)
      have NR : Hid (VC wr lb none none none /\ wr.cell? ⟨lb + 1, 0, none⟩ = some (.pointer none) /\ wr.cell? ⟨lb + 1, 1, none⟩ = some (.pointer (some ⟨lb, 0, none⟩))) := hid (by
        obtain ⟨h1, h2, h3⟩ := N16.out
        exact ⟨h1.below hb, Below.at hb h2 (World.block_lt_of_cell? _ _ h2), Below.at hb h3 (World.block_lt_of_cell? _ _ h3)⟩)
      clear hb
      by_cases hlt : j < 2
      . have HP : ∃ p, wr.cell? ⟨lb + 1, 0 + j, none⟩ = some (.pointer p) /\ NilV wr p := by
          obtain ⟨h1, h2, h3⟩ := NR.out
          match j, hlt with
          | 0, _ => exact ⟨none, h2, .inl rfl⟩
          | 1, _ => exact ⟨some ⟨lb, 0, none⟩, h3, .inr ⟨lb, rfl, h1⟩⟩
        obtain ⟨p, hp, hno⟩ := HP
        rw [Nat.zero_add] at hp
        have HNO := hid hno
        obtain ⟨x0, x1, x2, x3, x4, x5, x6, x7, x8, x9, x10⟩ := CR.out
        simp only [Nat.zero_add] at x0 x1 x2 x3 x4 x5 x6 x7 x8 x9 x10
        have t0 : (0 : Int) <= (j : Int) := by omega
        have t1 : (j : Int) < 2 := by omega
        have HLT := hid hlt
        clear hno hlt hj
        go_wp2_with fail
        refine (nv_at HNO.out ra).mono ?_
        rintro e u1 ⟨rfl, hb1⟩
        have I1 : Hid (Below wr.heap.size wr u1) := hid hb1
        clear hb1 hp x0 x1 x2 x3 x4 x5 x6 x7 x8 x9 x10
        go_wp2_with fail
        generalize hu2 : World.alloc u1 _ = u2
        have I2 : Hid (Below wr.heap.size wr u2) := hid (by subst hu2; exact I1.out.alloc I1.out.size _)
        clear hu2 I1
        refine (nv_get (HNO.out.below I2.out)).mono ?_
        rintro e u3 ⟨rfl, hb3⟩
        have I3 : Hid (Below wr.heap.size wr u3) := hid (I2.out.trans (hb3.mono I2.out.size))
        clear hb3 I2
        go_wp2_with fail
        generalize hu4 : World.alloc u3 _ = u4
        have I4 : Hid (Below wr.heap.size wr u4) := hid (by subst hu4; exact I3.out.alloc I3.out.size _)
        clear hu4 I3
        refine (nv_term (HNO.out.below I4.out) 0).mono ?_
        rintro e u5 ⟨rfl, hb5⟩
        have I5 : Hid (Below wr.heap.size wr u5) := hid (I4.out.trans (hb5.mono I4.out.size))
        clear hb5 I4
        obtain ⟨x0, x1, x2, x3, x4, x5, x6, x7, x8, x9, x10⟩ := CR.out.below I5.out
        simp only [Nat.zero_add] at x0 x1 x2 x3 x4 x5 x6 x7 x8 x9 x10
        go_wp2_with fail
        refine (tcall_nil (HNO.out.below I5.out) rk rn ra ea en ec rst rsv ri rt am ad nm cm nd cd (.slice ta' tn' tc')).mono ?_
        rintro e u6 ⟨rfl, hb6⟩
        have I6 : Hid (Below wr.heap.size wr u6) := hid (I5.out.trans (hb6.mono I5.out.size))
        clear hb6 I5 x0 x1 x2 x3 x4 x5 x6 x7 x8 x9 x10
        go_wp2_with fail
        refine (nv_first (HNO.out.below I6.out)).mono ?_
        rintro e u7 ⟨rfl, hb7⟩
        have I7 : Hid (Below wr.heap.size wr u7) := hid (I6.out.trans (hb7.mono I6.out.size))
        clear hb7 I6
        go_wp2_with fail
        refine (nv_last (HNO.out.below I7.out)).mono ?_
        rintro e u8 ⟨rfl, hb8⟩
        have I8 : Hid (Below wr.heap.size wr u8) := hid (I7.out.trans (hb8.mono I7.out.size))
        clear hb8 I7
        go_wp2_with fail
        refine (nv_base (HNO.out.below I8.out)).mono ?_
        rintro e u9 ⟨rfl, hb9⟩
        have I9 : Hid (Below wr.heap.size wr u9) := hid (I8.out.trans (hb9.mono I8.out.size))
        clear hb9 I8
        go_wp2_with fail
        refine (nv_state (HNO.out.below I9.out)).mono ?_
        rintro e u10 ⟨rfl, hb10⟩
        have I10 : Hid (Below wr.heap.size wr u10) := hid (I9.out.trans (hb10.mono I9.out.size))
        clear hb10 I9
        obtain ⟨x0, x1, x2, x3, x4, x5, x6, x7, x8, x9, x10⟩ := CR.out.below I10.out
        simp only [Nat.zero_add] at x0 x1 x2 x3 x4 x5 x6 x7 x8 x9 x10
        go_wp2_with fail
        refine (nv_from (HNO.out.below I10.out) 0 rn).mono ?_
        rintro e u11 ⟨rfl, hb11⟩
        have I11 : Hid (Below wr.heap.size wr u11) := hid (I10.out.trans (hb11.mono I10.out.size))
        clear hb11 I10 x0 x1 x2 x3 x4 x5 x6 x7 x8 x9 x10
        go_wp2_with fail
        refine (nv_broken (HNO.out.below I11.out)).mono ?_
        rintro e u12 ⟨rfl, rfl⟩
        go_wp2_with fail
        go_roundw
        case rel => exact ⟨j + 1, by have := HLT.out; omega, by first | rfl | go_num, BR.out.trans (I11.out.mono BR.out.size)⟩
        all_goals (show 2 - ((j : Int) + 1).toNat < 2 - ((j : Int)).toNat; have := HLT.out; omega)
      . obtain rfl : j = 2 := by omega
        have B3 : Hid (Below w.heap.size w wr) := hid (B16.out.trans (BR.out.mono B16.out.size))
        clear hlt hj
        go_wp2_with fail
        refine (nod_vltopen none wr (.inl rfl)).mono ?_
        rintro e u1 ⟨rfl, hb1⟩
        have B4 : Hid (Below w.heap.size w u1) := hid (B3.out.trans (hb1.mono B3.out.size))
        clear hb1
        go_wp2_with fail
        generalize hu2 : World.alloc u1 _ = u2
        have B5 : Hid (Below w.heap.size w u2) := hid (by subst hu2; exact B4.out.alloc B4.out.size _)
        have ND : Hid (NoDisk u2 (some ⟨u1.heap.size, 0, none⟩)) := hid (.inr ⟨u1.heap.size, rfl, by subst hu2; go_cell⟩)
        clear hu2
        refine (nod_vltopen _ u2 ND.out).mono ?_
        rintro e u3 ⟨rfl, hb3⟩
        have B6 : Hid (Below w.heap.size w u3) := hid (B5.out.trans (hb3.mono B5.out.size))
        clear hb3
        go_wp2_with fail
        refine (tlives_any _).mono ?_
        rintro e u7 ⟨rfl, hb7⟩
        have B10 : Hid (Below w.heap.size w u7) := hid (B6.out.trans (hb7.mono B6.out.size))
        clear hb7
        go_wp2_with fail
        go_ret
        exact ⟨rfl, B10.out⟩
end Go.Proofs.YtjdglpcnkiioeaaGreat
namespace Go.Proofs.YtjdglpcnkiioeaaGreat
open Go.ChangeShapes Go.WideShapes Go.ChangeAt Go.RowKit Go.Deep Go.Proofs.Own


set_option maxRecDepth 100000 in
theorem vbroken_law_lifted (os : Os) (started : os.Started) (H : Type) (enc : TypeId × Value -> H) :
    ReturnsInHanded {} Tryz.checked os 7 .any (Rows.vaultBrokenSpec.pre6 enc Tryz.prog Tryz.f7 Rows.vaultBrokenRow.domain false) (Rows.vaultBrokenSpec.post enc Tryz.prog Tryz.f7 false true false false) := by
  refine returnsInHanded_of_change (C := Tryz.checked) own started (by kernel_rfl) Tryz.func7
    (ChangeSpec.witness6 (enc := enc) (C := Tryz.checked) false ⟨#[], #[.agg #[.int .i64 0, .int .i64 0, .int .u64 0, .slice none 0 0, .int .u64 0, .int .i64 0, .int .u64 0, .int .u64 0, .slice none 0 0, .slice none 0 0, .slice none 0 0]], []⟩ 8 (by kernel_rfl) (by kernel_rfl) (by kernel_rfl) (by kernel_rfl)) ?_
  intro W base args ds gs before hval0 hW hcnd _
  have hval : ∀ (j : Nat) t v, Tryz.f7.params[j]? = some t -> args[j]? = some v -> Value.okWide Tryz.prog W .any base t v := hval0
  have hW' := hW
  obtain ⟨p, q, hA0, hV, _, hfz, hnd⟩ := hW
  have hA : DataW.TrodAll enc Tryz.prog W 0 (fun _ => true) true Tryz.f7.params.toList args.toList ds p := hA0
  rw [Tryz.params7] at hA hval
  obtain ⟨v0, d0, rfl, rfl, h0⟩ := trodAll_one hA
  obtain ⟨r, rfl, b0⟩ := open_top1 (hval 0 99 v0 rfl rfl) h0
  refine (tbroken_any r W b0).mono fun e W' ⟨he, hb⟩ => ?_
  exact ⟨_, he, law_post laid (by kernel_rfl) ⟨4, rfl, Tryz.underlying4⟩ rfl (fun ds hds => by
    match ds, hds with
    | [x0], _ => rfl) hW' hb⟩

theorem vbroken_law_holds : Rows.VaultBrokenSaid :=
  OpenClaim.holds_of_wide 7 Tryz.f7 rfl rfl rfl rfl rfl rfl rfl ⟨rfl, rfl, rfl, rfl, rfl⟩ rfl rfl rfl rfl rfl (by kernel_rfl) Tryz.func7 (by kernel_rfl)
    (of_decide_eq_true (by kernel_rfl)) (by unfold Func.isWrapper; first | (rw [if_pos (by decide +kernel)]; kernel_rfl) | (rw [if_neg (by decide +kernel)]; exact ⟨rfl, rfl⟩))
    (fun os started H enc _ => vbroken_law_lifted os started H enc)
#print axioms vbroken_law_holds
end Go.Proofs.YtjdglpcnkiioeaaGreat
