/- Several texts in one: Kit, Plan, Frm, Mac, Cp, Close. What each proves stands ahead of it. -/
import Derived.Maps.OwnSet
import Derived.Maps.AppendAt
import Derived.WalkKit
import Derived.WalkSpells
import Derived.BigQuiet
import Derived.Outline
import Derived.Deep.QuietTactic
import Derived.Deep.DeepFit
import Derived.Lib.Hide
import Derived.OpenShut
import Derived.Deep.AppendLies
import Derived.Deep.AppendSrc
import Derived.StillTailTactics
import Derived.Deep.RegionHeld3
import Derived.OrdersHeld
import Derived.Tactics
import Derived.KernelRfl
import Derived.Laws.World
import Derived.Laws.IdiomCopy
import Derived.ProofKit
import Derived.SizedLaws
import Derived.Carry
import Derived.Deep.Slices
import Derived.Deep.Fields
import Derived.ChangeSame
/- Own small words: what one call may change ('Kept'), what a slice of integers reads as ('Reads'); no conditions. -/
namespace Go.Proofs.Own
open Go Go.RowKit

/-- w' is w, but for blocks of S and for new blocks. -/
structure Kept (w w' : World) (S : Nat → Prop) : Prop where
  os : w'.os = w.os
  tape : w'.tape = w.tape
  output : w'.output = w.output
  size : w.heap.size ≤ w'.heap.size
  block : ∀ k, k < w.heap.size → ¬ S k → w'.heap[k]? = w.heap[k]?

theorem Kept.refl (w : World) (S : Nat → Prop) : Kept w w S := ⟨rfl, rfl, rfl, Nat.le_refl _, fun _ _ _ => rfl⟩
theorem Kept.mono {w w' : World} {S T : Nat → Prop} (h : Kept w w' S) (hs : ∀ k, k < w.heap.size → S k → T k) : Kept w w' T :=
  ⟨h.os, h.tape, h.output, h.size, fun k hk ht => h.block k hk fun hs' => ht (hs k hk hs')⟩
theorem Kept.trans {a b c : World} {S : Nat → Prop} (h : Kept a b S) (k : Kept b c S) : Kept a c S :=
  ⟨k.os.trans h.os, k.tape.trans h.tape, k.output.trans h.output, Nat.le_trans h.size k.size,
   fun i hi hs => (k.block i (Nat.lt_of_lt_of_le hi h.size) hs).trans (h.block i hi hs)⟩
/-- two steps, the second of which may touch what the first has made -/
theorem Kept.andThen {a b c : World} {S T U : Nat → Prop} (h : Kept a b S) (k : Kept b c T) (hu : ∀ k, k < a.heap.size → S k ∨ T k → U k) : Kept a c U :=
  ⟨k.os.trans h.os, k.tape.trans h.tape, k.output.trans h.output, Nat.le_trans h.size k.size,
   fun i hi hs => (k.block i (Nat.lt_of_lt_of_le hi h.size) fun ht => hs (hu i hi (.inr ht))).trans (h.block i hi fun h1 => hs (hu i hi (.inl h1)))⟩
theorem Kept.stepNew {a b c : World} {S : Nat → Prop} {n : Nat} (h : Kept a b S) (k : Kept b c (fun k => k = n)) (hn : a.heap.size ≤ n) : Kept a c S :=
  h.andThen k fun k h1 h2 => by
    rcases h2 with h2 | h2
    · exact h2
    · omega
theorem Kept.of_below {B : Nat} {w w' : World} (h : Below B w w') {S : Nat → Prop} (hS : ∀ k, k < w.heap.size → B ≤ k → S k) : Kept w w' S :=
  ⟨h.os, h.tape, h.output, h.size, fun k hk hs => by
    by_cases hB : k < B
    · exact h.block k hB
    · exact (hs (hS k hk (by omega))).elim⟩
theorem Kept.below {B : Nat} {w w' : World} {S : Nat → Prop} (h : Kept w w' S) (hB : B ≤ w.heap.size) (hS : ∀ k, S k → B ≤ k) : Below B w w' :=
  ⟨h.os, h.tape, h.output, h.size, fun k hk => h.block k (by omega) fun hs => by have := hS k hs; omega⟩
theorem Kept.of_grown {w w' : World} {row : Option Nat} (h : w.grownBy w' row) : Kept w w' (fun k => row = some k) :=
  ⟨h.os, h.tape, h.output, h.size, fun k hk hs => h.block k hk fun e => hs e.symm⟩
theorem Kept.alloc (w : World) (o : Obj) (S : Nat → Prop) : Kept w (w.alloc o) S := Kept.of_below (Below.refl w.heap.size w |>.alloc (Nat.le_refl _) o) fun k h1 h2 => by omega
theorem Kept.drew (w : World) (S : Nat → Prop) : Kept w w.drew S := ⟨rfl, rfl, rfl, Nat.le_refl _, fun _ _ _ => rfl⟩
theorem Kept.setCell (w : World) (a : Addr) (v : Value) : Kept w (w.setCell a v) (fun k => k = a.block) :=
  ⟨rfl, rfl, rfl, by simp [World.setCell], fun k _ hs => Below.heap_setCell _ _ _ _ hs⟩
theorem Kept.cell {w w' : World} {S : Nat → Prop} (h : Kept w w' S) {a : Addr} {v : Value} (hc : w.cell? a = some v) (hs : ¬ S a.block) : w'.cell? a = some v :=
  (World.cell?_of_block (h.block a.block (World.block_lt_of_cell? w a hc) hs)).trans hc
theorem Kept.frozen {w w' : World} {S : Nat → Prop} (h : Kept w w' S) {a : Addr} (hl : a.block < w.heap.size) (hs : ¬ S a.block) : w'.frozen? a = w.frozen? a :=
  World.frozen?_of_block (h.block a.block hl hs)

/-- The value v reads, in w, as the numbers zs of kind k, one cell each. -/
def Reads (w : World) (k : IntKind) (v : Value) (zs : List Int) : Prop :=
  ∃ a c, v = .slice a zs.length c ∧ ∀ j (h : j < zs.length), ∃ b o, a = some ⟨b, o, none⟩ ∧ w.cell? ⟨b, o + j, none⟩ = some (.int k (zs[j]'h))

theorem Reads.kept {w w' : World} {k : IntKind} {v : Value} {zs : List Int} {S : Nat → Prop} (h : Reads w k v zs) (hk : Kept w w' S) (hs : ∀ b, v.ownBlock = some b → ¬ S b) : Reads w' k v zs := by
  obtain ⟨a, c, rfl, hc⟩ := h
  refine ⟨a, c, rfl, fun j hj => ?_⟩
  obtain ⟨b, o, rfl, h1⟩ := hc j hj
  exact ⟨b, o, rfl, hk.cell h1 (hs b rfl)⟩
theorem Reads.below {w w' : World} {k : IntKind} {v : Value} {zs : List Int} (h : Reads w k v zs) (hb : Below w.heap.size w w') : Reads w' k v zs :=
  h.kept (Kept.of_below hb (S := fun _ => False) fun k h1 h2 => by omega) fun _ _ h => h
theorem Reads.alloc {w : World} {k : IntKind} {v : Value} {zs : List Int} (h : Reads w k v zs) (o : Obj) : Reads (w.alloc o) k v zs := h.below ((Below.refl _ _).alloc (Nat.le_refl _) o)
theorem Reads.drew {w : World} {k : IntKind} {v : Value} {zs : List Int} (h : Reads w k v zs) : Reads w.drew k v zs := h
theorem Reads.nil (w : World) (k : IntKind) (a : Option Addr) (c : Nat) : Reads w k (.slice a 0 c) [] := ⟨a, c, rfl, fun j h => absurd h (Nat.not_lt_zero j)⟩
theorem Reads.of_owns {w : World} {base : Nat} {e : TypeId} {k : IntKind} {v : Value} {zs : List Int} (h : w.ownsRow base e 1 v zs.length (zs.map (.int k))) : Reads w k v zs := by
  rcases h.2 with ⟨rfl, h0⟩ | ⟨g, cap, cur, rfl, _⟩
  · have : zs = [] := List.eq_nil_of_length_eq_zero h0
    subst this
    exact Reads.nil _ _ _ _
  · refine ⟨_, _, rfl, fun j hj => ⟨g, 0, rfl, ?_⟩⟩
    rw [Nat.zero_add, h.cellAt j (by omega)]
    simp [hj]

/-- The call's own slice of integers: nil, or a row from block base on. -/
def Owns (w : World) (base : Nat) (e : TypeId) (k : IntKind) (v : Value) (zs : List Int) : Prop := w.ownsRow base e 1 v zs.length (zs.map (.int k))
theorem Owns.reads {w : World} {base : Nat} {e : TypeId} {k : IntKind} {v : Value} {zs : List Int} (h : Owns w base e k v zs) : Reads w k v zs := Reads.of_owns h
theorem Owns.nil (w : World) (base : Nat) (e : TypeId) (k : IntKind) : Owns w base e k (.slice none 0 0) [] := World.ownsRow_nil w base e 1
theorem Owns.lt {w : World} {base : Nat} {e : TypeId} {k : IntKind} {v : Value} {zs : List Int} (h : Owns w base e k v zs) : ∀ b, v.ownBlock = some b → base ≤ b ∧ b < w.heap.size := World.ownsRow.lt h
theorem Owns.kept {w w' : World} {base : Nat} {e : TypeId} {k : IntKind} {v : Value} {zs : List Int} {S : Nat → Prop} (h : Owns w base e k v zs) (hk : Kept w w' S) (hs : ∀ b, v.ownBlock = some b → ¬ S b) : Owns w' base e k v zs := by
  refine ⟨h.1, ?_⟩
  rcases h.2 with hn | ⟨g, cap, cur, rfl, hb, hg, r⟩
  · exact .inl hn
  · exact .inr ⟨g, cap, cur, rfl, hb, by rw [hk.block g (Array.getElem?_eq_some_iff.1 hg).1 (hs g rfl)]; exact hg, r⟩
theorem Owns.below {w w' : World} {base : Nat} {e : TypeId} {k : IntKind} {v : Value} {zs : List Int} (h : Owns w base e k v zs) (hb : Below w.heap.size w w') : Owns w' base e k v zs :=
  h.kept (Kept.of_below hb (S := fun _ => False) fun k h1 h2 => by omega) fun _ _ h => h
theorem Owns.alloc {w : World} {base : Nat} {e : TypeId} {k : IntKind} {v : Value} {zs : List Int} (h : Owns w base e k v zs) (o : Obj) : Owns (w.alloc o) base e k v zs := World.ownsRow.alloc h o
theorem Owns.lower {w : World} {base base' : Nat} {e : TypeId} {k : IntKind} {v : Value} {zs : List Int} (h : Owns w base e k v zs) (hb : ∀ b, v.ownBlock = some b → base' ≤ b) : Owns w base' e k v zs := by
  refine ⟨h.1, ?_⟩
  rcases h.2 with hn | ⟨g, cap, cur, rfl, _, r⟩
  · exact .inl hn
  · exact .inr ⟨g, cap, cur, rfl, hb g rfl, r⟩

/-- t is the type of slices of integers of kind q (element type e, by bytes each). -/
structure IntSlice (P : Program) (t e : TypeId) (q : IntKind) (by' : Nat) : Prop where
  under : P.underlying t = some (.slice e)
  info : (P.info? e).map (fun i => (i.zero, i.size, i.bytes)) = some (some (.int q 0), 1, by')

theorem run_append_ints {P : Program} {t e : TypeId} {q : IntKind} {by' : Nat} (I : IntSlice P t e q by') (w : World) (ty : TypeId) (base : Nat) (v x : Value) (zs ns : List Int)
    (hown : Owns w base e q v zs) (hr : Reads w q x ns) (hby : by' ≤ 8) (hlen : zs.length + ns.length ≤ 4294967296) (hbase : base ≤ w.heap.size) :
    ∃ v' w', (Builtin.append_ #[t, t] ty #[v, x]).run P w = .ok v' w' ∧ Owns w' base e q v' (zs ++ ns) ∧ w.grownBy w' v.ownBlock ∧ (v'.ownBlock = v.ownBlock ∨ v'.ownBlock = some w.heap.size) ∧
      (v' = .slice none 0 0 ↔ v = .slice none 0 0 ∧ ns = []) ∧ Below base w w' := by
  obtain ⟨i0, hi, hz0, hz1, hz2⟩ := info_parts I.info
  obtain ⟨a, c, rfl, hc⟩ := hr
  cases a with
  | some ad =>
    obtain ⟨v', w', hrun, h1, h2, h3, h4⟩ := run_append_own_at (P := P) w base t ty e i0 (.int q 0) 1 by' I.under hi hz0 hz1 hz2 rfl (by decide) v zs.length (zs.map (.int q)) hown ad ns.length c (ns.map (.int q)) (by simp)
      (fun j u hu => by
        have hj : j < ns.length := by have := (List.getElem?_eq_some_iff.1 hu).1; simpa using this
        obtain ⟨b, o, hbo, hcell⟩ := hc j hj
        obtain rfl := Option.some.inj hbo
        rw [Addr.add_lit, hcell]
        simpa [hj] using hu)
      (ints_oneCell q ns) (by unfold maxLen; omega) (by have := Nat.mul_le_mul (show zs.length + ns.length ≤ 4294967296 by omega) hby; omega) hbase
    refine ⟨v', w', hrun, by simpa [Owns] using h1, h2, h4, ?_, (Below.refl _ _).grown h2 hbase fun g hg => (Owns.lt hown g hg).1⟩
    rw [h3]
    simp
  | none =>
    have hns : ns = [] := by
      rcases ns with _ | ⟨n, ns⟩
      · rfl
      · obtain ⟨b, o, h, _⟩ := hc 0 (by simp)
        cases h
    subst hns
    refine ⟨v, w, ?_, by simpa using hown, World.grownBy.refl _ _, .inl rfl, by simp, Below.refl _ _⟩
    rcases hown.2 with ⟨rfl, h0⟩ | ⟨g, cap, cur, rfl, _, _, hnc, _⟩
    · simp [Builtin.append_, run_underlying I.under, sizeOf, typeInfo, hi, Builtin.lenOf, Builtin.firstCells]
    · simp [Builtin.append_, run_underlying I.under, sizeOf, typeInfo, hi, Builtin.lenOf, Builtin.firstCells, hnc, storeCells]

section
variable {P : Program} {t e : TypeId} {q : IntKind} {by' : Nat} (I : IntSlice P t e q by') {w : World} {o : Oper} {a : Act} {Q : Exit → Act → World → Prop} (s x : Operand)
  (ho : o.op = .call { callee := .builtin .append, args := #[s, x], argTypes := #[t, t] }) (base : Nat) (v xv : Value) (zs ns : List Int) (hs : a.eval s = v) (hx : a.eval x = xv)
  (hown : Owns w base e q v zs) (hr : Reads w q xv ns) (hby : by' ≤ 8) (hlen : zs.length + ns.length ≤ 4294967296) (hbase : base ≤ w.heap.size)
include I ho hs hx hown hr hby hlen hbase

theorem wp_append_ints {K : Act → World → Prop}
    (h : ∀ v' w', Owns w' base e q v' (zs ++ ns) → w.grownBy w' v.ownBlock → (v'.ownBlock = v.ownBlock ∨ v'.ownBlock = some w.heap.size) → (v' = .slice none 0 0 ↔ v = .slice none 0 0 ∧ ns = []) → Below base w w' → K (a.put o.dst v') w') : o.wp P a w K Q := by
  obtain ⟨v', w', hrun, h1, h2, h3, h4, h5⟩ := run_append_ints I w o.type base v xv zs ns hown hr hby hlen hbase
  unfold Oper.wp execOp
  simp only [ho, resolve, invoke, builtin, Sem.run_bind, Sem.run_pure, Result.andThen_ok, List.map_toArray, List.map_cons, List.map_nil, hs, hx, hrun]
  exact h v' w' h1 h2 h3 h4 h5

theorem wpList_append_ints {ops : Array Oper} {rest : List Oper} (hgd : o.guard = none)
    (h : ∀ v' w', Owns w' base e q v' (zs ++ ns) → w.grownBy w' v.ownBlock → (v'.ownBlock = v.ownBlock ∨ v'.ownBlock = some w.heap.size) → (v' = .slice none 0 0 ↔ v = .slice none 0 0 ∧ ns = []) → Below base w w' → wpList P ops Q rest (a.put o.dst v') w') :
    wpList P ops Q (o :: rest) a w :=
  wpList_plain hgd fun _ hK => wp_append_ints I s x ho base v xv zs ns hs hx hown hr hby hlen hbase fun v' w' h1 h2 h3 h4 h5 => hK _ _ (h v' w' h1 h2 h3 h4 h5)

theorem step_append_ints {ops : Array Oper} {K : Act → World → Prop} {E : Prop} (hgd : o.guard = none)
    (h : ∀ v' w', Owns w' base e q v' (zs ++ ns) → w.grownBy w' v.ownBlock → (v'.ownBlock = v.ownBlock ∨ v'.ownBlock = some w.heap.size) → (v' = .slice none 0 0 ↔ v = .slice none 0 0 ∧ ns = []) → Below base w w' → K (a.put o.dst v') w') :
    if Region.wanted o (yielded ops a.tmps) = true then Oper.wp P o a w K Q else E := by
  have hw : Region.wanted o (yielded ops a.tmps) = true := by simp [Region.wanted, hgd]
  rw [if_pos hw]
  exact wp_append_ints I s x ho base v xv zs ns hs hx hown hr hby hlen hbase h
end

/-- The one-cell block that 'append(s, x)' lays first. -/
theorem Reads.one (w : World) (q : IntKind) (z : Int) (t : TypeId) : Reads (w.alloc (.cells #[.int q z] t)) q (.slice (some ⟨w.heap.size, 0, none⟩) 1 1) [z] := by
  refine ⟨_, _, rfl, fun j hj => ⟨w.heap.size, 0, rfl, ?_⟩⟩
  have : j = 0 := by simpa using hj
  subst this
  simp

theorem Owns.shape {w : World} {base : Nat} {e : TypeId} {k : IntKind} {v : Value} {zs : List Int} (h : Owns w base e k v zs) : ∃ a c, v = .slice a zs.length c := by
  rcases h.2 with ⟨rfl, h0⟩ | ⟨g, cap, cur, rfl, _⟩
  · exact ⟨none, 0, by rw [h0]⟩
  · exact ⟨_, _, rfl⟩
theorem Reads.shape {w : World} {k : IntKind} {v : Value} {zs : List Int} (h : Reads w k v zs) : ∃ a c, v = .slice a zs.length c := let ⟨a, c, h, _⟩ := h; ⟨a, c, h⟩
theorem cell_alloc {w : World} {p : Addr} {v : Value} (h : w.cell? p = some v) (o : Obj) : (w.alloc o).cell? p = some v := (Kept.alloc w o (fun _ => False)).cell h id
theorem cell_drew {w : World} {p : Addr} {v : Value} (h : w.cell? p = some v) : w.drew.cell? p = some v := h
/-- a cell below B, behind Below -/
theorem Below.at {B : Nat} {w w' : World} (hb : Below B w w') {p : Addr} {v : Value} (h : w.cell? p = some v) (hl : p.block < B) : w'.cell? p = some v := by rw [hb.cell hl]; exact h
theorem Owns.drew {w : World} {base : Nat} {e : TypeId} {k : IntKind} {v : Value} {zs : List Int} (h : Owns w base e k v zs) : Owns w.drew base e k v zs := h
/-- A literal's row. -/
theorem Owns.lit {w : World} {base g : Nat} {e : TypeId} {k : IntKind} {zs : List Int} (h : w.heap[g]? = some (.cells (zs.map (.int k)).toArray e (0, 0))) (hb : base ≤ g) (hm : zs.length ≤ 4294967296) :
    Owns w base e k (.slice (some ⟨g, 0, none⟩) zs.length zs.length) zs :=
  ⟨by simp, .inr ⟨g, zs.length, _, rfl, hb, h, Nat.le_refl _, by unfold maxLen; omega, by simp, by rw [List.take_of_length_le (by simp)]⟩⟩
theorem Owns.empty {w : World} {base g : Nat} {e : TypeId} {k : IntKind} (h : w.heap[g]? = some (.cells #[] e (0, 0))) (hb : base ≤ g) : Owns w base e k (.slice (some ⟨g, 0, none⟩) 0 0) [] := Owns.lit (zs := []) h hb (by simp)
theorem Reads.block1 {w : World} {g : Nat} {e : TypeId} {k : IntKind} {z : Int} {fr : Nat × Nat} (h : w.heap[g]? = some (.cells #[.int k z] e fr)) : Reads w k (.slice (some ⟨g, 0, none⟩) 1 1) [z] := by
  refine ⟨_, _, rfl, fun j hj => ⟨g, 0, rfl, ?_⟩⟩
  have : j = 0 := by simpa using hj
  subst this
  simp [World.cell?, h]
theorem heap_at {w : World} {n : Nat} (h : w.heap.size = n) (o : Obj) : (w.alloc o).heap[n]? = some o := h ▸ heap_alloc_new w o
theorem heap_dr {w : World} {g : Nat} {x : Obj} (h : w.heap[g]? = some x) : w.drew.heap[g]? = some x := h
theorem heap_old {w : World} {g : Nat} {x : Obj} (h : w.heap[g]? = some x) (o : Obj) : (w.alloc o).heap[g]? = some x := by
  rw [Below.heap_alloc _ _ _ (Array.getElem?_eq_some_iff.1 h).1]; exact h
theorem heap_grown {w w' : World} {g : Nat} {x : Obj} {row : Option Nat} (h : w.heap[g]? = some x) (hg : w.grownBy w' row) (hr : row ≠ some g) : w'.heap[g]? = some x := by
  rw [hg.block g (Array.getElem?_eq_some_iff.1 h).1 (Ne.symm hr)]; exact h
theorem Owns.kept_setCell {w : World} {base : Nat} {e : TypeId} {k : IntKind} {v : Value} {zs : List Int} (h : Owns w base e k v zs) {a : Addr} (x : Value) (ha : a.block < base) : Owns (w.setCell a x) base e k v zs :=
  ownsRow_setCell_below h ha x
theorem below_drewN {B : Nat} {a w : World} (h : Below B a w) (n : Nat) : Below B a (w.drewN n) := h.trans ⟨rfl, rfl, rfl, Nat.le_refl _, fun _ _ => rfl⟩

end Go.Proofs.Own

/- A region that draws its order, walked in ONE order: the operations that only read or compute are taken first ('heads'), the rest in the orders that are left. Over any program; no conditions. -/
namespace Go.Proofs.Own
open Go

section gentle
variable {P : Program}
def Calm0 {α : Type} (P : Program) (s : Sem α) : Prop := ∀ w, (∃ a, s.run P w = .ok a w) ∨ (∃ h, s.run P w = .halt h w ∧ ∀ v, h ≠ .panic v)
def Calm1 {α : Type} (P : Program) (s : Sem α) : Prop := ∀ w, (∃ a x, s.run P w = .ok a (w.alloc x)) ∨ (∃ h w', s.run P w = .halt h w' ∧ ∀ v, h ≠ .panic v)
theorem Calm0.pure {α : Type} (a : α) : Calm0 P (pure a : Sem α) := fun _ => .inl ⟨a, rfl⟩
theorem Calm0.halt {α : Type} (h : Halt) (hp : ∀ v, h ≠ .panic v) : Calm0 P (Sem.halt h : Sem α) := fun _ => .inr ⟨h, rfl, hp⟩
theorem Calm1.halt {α : Type} (h : Halt) (hp : ∀ v, h ≠ .panic v) : Calm1 P (Sem.halt h : Sem α) := fun w => .inr ⟨h, w, rfl, hp⟩
theorem Calm0.bind {α β : Type} {s : Sem α} {f : α → Sem β} (h : Calm0 P s) (hf : ∀ a, Calm0 P (f a)) : Calm0 P (s >>= f) := fun w => by
  rcases h w with ⟨a, ha⟩ | ⟨x, hx, hp⟩
  · rw [Sem.run_bind, ha]; exact hf a w
  · right; exact ⟨x, by rw [Sem.run_bind, hx]; rfl, hp⟩
theorem Calm1.bind {α β : Type} {s : Sem α} {f : α → Sem β} (h : Calm0 P s) (hf : ∀ a, Calm1 P (f a)) : Calm1 P (s >>= f) := fun w => by
  rcases h w with ⟨a, ha⟩ | ⟨x, hx, hp⟩
  · rw [Sem.run_bind, ha]; exact hf a w
  · right; exact ⟨x, w, by rw [Sem.run_bind, hx]; rfl, hp⟩
theorem Calm1.then {α β : Type} {s : Sem α} {f : α → β} (h : Calm1 P s) : Calm1 P (s >>= fun a => Pure.pure (f a)) := fun w => by
  rcases h w with ⟨a, x, ha⟩ | ⟨x, w', hx, hp⟩
  · left; exact ⟨f a, x, by rw [Sem.run_bind, ha]; rfl⟩
  · right; exact ⟨x, w', by rw [Sem.run_bind, hx]; rfl, hp⟩
theorem Calm0.typeInfo (t : TypeId) : Calm0 P (typeInfo t) := fun w => by
  cases h : P.info? t with
  | some i => exact .inl ⟨i, by simp [Go.typeInfo, h, go_sem]⟩
  | none => exact .inr ⟨.stuck "no such type", by simp [Go.typeInfo, h, go_sem, stuck], nofun⟩
theorem Calm0.underlying (t : TypeId) : Calm0 P (underlying t) := fun w => by
  cases h : P.underlying t with
  | some i => exact .inl ⟨i, by simp [Go.underlying, h, go_sem]⟩
  | none => exact .inr ⟨.stuck "no such type", by simp [Go.underlying, h, go_sem, stuck], nofun⟩
theorem Calm0.sizeOf (t : TypeId) : Calm0 P (Go.sizeOf t) := Calm0.bind (Calm0.typeInfo t) fun _ => Calm0.pure _
theorem Calm0.zeroValue (t : TypeId) : Calm0 P (zeroValue t) := Calm0.bind (Calm0.typeInfo t) fun i => by
  cases i.zero with
  | some v => exact Calm0.pure v
  | none => exact Calm0.halt _ nofun
theorem Calm1.newObj (o : Obj) : Calm1 P (newObj o) := fun w => .inl ⟨w.heap.size, o, rfl⟩
theorem Calm1.newRow (t : TypeId) (cs : Array Value) : Calm1 P (newRow t cs) := Calm1.then (Calm1.newObj _)

def gentle : Op → Bool
  | .alloc _ | .box .. | .buildSlice .. | .makeMap _ none => true
  | _ => false

theorem Calm1.value {s : Sem Value} (h : Calm1 P s) : ∀ w, (∃ u x, (s >>= fun v => (Pure.pure (Next.value v) : Sem Next)).run P w = .ok (.value u) (w.alloc x)) ∨ (∃ h w', (s >>= fun v => (Pure.pure (Next.value v) : Sem Next)).run P w = .halt h w' ∧ ∀ v, h ≠ .panic v) := fun w => by
  rcases h w with ⟨a, x, ha⟩ | ⟨x, w', hx, hp⟩
  · left; exact ⟨a, x, by rw [Sem.run_bind, ha]; rfl⟩
  · right; exact ⟨x, w', by rw [Sem.run_bind, hx]; rfl, hp⟩

theorem Calm1.halt_bind {α β : Type} {h : Halt} (hp : ∀ v, h ≠ .panic v) (f : α → Sem β) : Calm1 P ((Sem.halt h : Sem α) >>= f) := fun w => .inr ⟨h, w, rfl, hp⟩

theorem calm_buildSlice (t : TypeId) (n : Nat) (ps : Array (Nat × Value)) : Calm1 P (Instr.buildSlice t n ps) := by
  unfold Instr.buildSlice
  refine Calm1.bind (Calm0.underlying t) fun d => ?_
  cases d with
  | slice elem =>
    refine Calm1.bind (Calm0.sizeOf elem) fun size => ?_
    have fin : ∀ zero : Array Value, Calm1 P (match Instr.fill (fun i => some (i * size, size)) (Array.map (fun x => zero[x % zero.size]!) (Array.range (n * size))) ps.toList with
        | some cells => do
          let a ← newRow elem cells
          pure (Value.slice (some a) n n)
        | x => stuck "buildSlice: a part of the wrong size") := fun zero => by
      split
      · exact Calm1.then (Calm1.newRow _ _)
      · exact Calm1.halt _ nofun
    dsimp only
    split
    · exact Calm1.halt_bind (fun v e => by cases e) _
    · split
      · exact Calm1.bind (Calm0.pure _) fin
      · exact Calm1.bind (Calm0.zeroValue elem) fun z => Calm1.bind (Calm0.pure _) fin
  | _ => exact Calm1.halt _ nofun

theorem gentle_run {o : Oper} (h : gentle o.op = true) (ρ : Operand → Value) (w : World) :
    (∃ u x, (execOp ρ o).run P w = .ok (.value u) (w.alloc x)) ∨ (∃ h w', (execOp ρ o).run P w = .halt h w' ∧ ∀ v, h ≠ .panic v) := by
  obtain ⟨dst, op, type, pos, after, guard⟩ := o
  cases op <;> simp only [gentle, Bool.false_eq_true] at h
  case alloc e =>
    have : Calm1 P (Instr.alloc e true (.tuple #[])) := Calm1.bind (Calm0.zeroValue e) fun z => Calm1.then (Calm1.newRow _ _)
    exact this.value w
  case box e x =>
    have : Calm1 P (Instr.box e (ρ x)) := Calm1.then (Calm1.newRow _ _)
    exact this.value w
  case buildSlice t n ps => exact (calm_buildSlice t n _).value w
  case makeMap t r =>
    cases r with
    | some _ => simp at h
    | none =>
      have : Calm1 P (Instr.makeMap t none) := Calm1.then (Calm1.newObj _)
      exact this.value w
end gentle

section plan
variable {P : Program} {ops : Array Oper} {Q : Exit → Act → World → Prop} {S : World → Prop} {M H : List Nat} {J : Nat}

def Closed (ops : Array Oper) (listed : Array Bool) : Prop :=
  ∀ j oj, ops[j]? = some oj → listed.getD j false = true → ∀ e ∈ oj.after, Region.binds .any e = true → listed.getD e.on false = true

/-- The mask M tells of each operation which ones must come before it. -/
def maskOk (ops : Array Oper) (M : List Nat) : Bool :=
  (List.range ops.size).all fun j => (List.range ops.size).all fun i =>
    !(M.getD j 0).testBit i || (match ops[j]? with
      | some oj => oj.after.any fun e => Region.binds .any e && decide (e.on < j) && (e.on == i || (M.getD e.on 0).testBit i)
      | none => false)

theorem mask_spec {listed : Array Bool} (hM : maskOk ops M = true) (hc : Closed ops listed) {i : Nat} (hi : i < ops.size) : ∀ n j, j < n → ∀ oj, ops[j]? = some oj →
    (∀ e ∈ oj.after, Region.binds .any e = true → listed.getD e.on false = true) → (M.getD j 0).testBit i = true → listed.getD i false = true := by
  intro n
  induction n with
  | zero => intro j hj; omega
  | succ n ih =>
    intro j hj oj hoj hall hbit
    have hjs : j < ops.size := (Array.getElem?_eq_some_iff.1 hoj).1
    have h1 := List.all_eq_true.1 (List.all_eq_true.1 hM j (List.mem_range.2 hjs)) i (List.mem_range.2 hi)
    simp only [hbit, Bool.not_true, Bool.false_or, hoj] at h1
    obtain ⟨e, he, h2⟩ := Array.any_eq_true'.1 h1
    simp only [Bool.and_eq_true, decide_eq_true_eq, Bool.or_eq_true, beq_iff_eq] at h2
    obtain ⟨⟨hb, hlt⟩, h3⟩ := h2
    have hl := hall e he hb
    rcases h3 with rfl | h3
    · exact hl
    · have hes : e.on < ops.size := by omega
      have hoe : ops[e.on]? = some ops[e.on] := Array.getElem?_eq_getElem hes
      exact ih e.on (by omega) _ hoe (fun e' he' hb' => hc e.on _ hoe hl e' he' hb') h3

def loadLike : Op → Bool
  | .load .. | .lookup .. | .convert .. => true
  | _ => false

/-- Where such a head has not come up yet, S must stand. -/
def needy (J i : Nat) (o : Oper) : Bool := loadLike o.op || J.testBit i

/-- A stage: from 'listed' on the heads H are taken. M: the masks; J: behind which operations S is shown anew. -/
structure Stage (ops : Array Oper) (M : List Nat) (J : Nat) (listed : Array Bool) (H : List Nat) : Prop where
  inr : ∀ i ∈ H, i < ops.size ∧ listed.getD i true = false
  pred : ∀ i ∈ H, ∀ oi, ops[i]? = some oi → ∀ e ∈ oi.after, Region.binds .any e = true → listed.getD e.on false = true ∨ (e.on ∈ H ∧ e.on < i)
  self : ∀ i ∈ H, ∀ oi, ops[i]? = some oi → ∃ d, oi.dst = some d ∧ d ∉ oi.looksAt ops
  free : ∀ i ∈ H, ∀ oi, ops[i]? = some oi → ∀ (j : Nat) oj, ops[j]? = some oj → listed.getD j true = false → j ≠ i →
    (M.getD j 0).testBit i = true ∨ ((∀ d, oi.dst = some d → d ∉ oj.looksAt ops) ∧ (j ∈ H ∨ (oi.apart ops oj = true ∧ (needy J i oi = true → gentle oj.op = true ∨ J.testBit j = true))))
  dsts : ∀ i ∈ H, ∀ j ∈ H, i ≠ j → ∀ oi oj, ops[i]? = some oi → ops[j]? = some oj → oi.dst ≠ oj.dst

structure Puts (ops : Array Oper) (hd : List (Nat × Value)) (a A : Act) : Prop where
  defers : A.defers = a.defers
  size : A.tmps.size = a.tmps.size
  hit : ∀ p ∈ hd, ∀ o, ops[p.1]? = some o → ∀ d, o.dst = some d → d < a.tmps.size → A.tmps[d]? = some p.2
  miss : ∀ t, (∀ p ∈ hd, ∀ o, ops[p.1]? = some o → o.dst ≠ some t) → A.tmps[t]? = a.tmps[t]?

structure Lists (hd : List (Nat × Value)) (listed L : Array Bool) : Prop where
  size : L.size = listed.size
  hit : ∀ p ∈ hd, p.1 < listed.size → L[p.1]? = some true
  miss : ∀ k, (∀ p ∈ hd, p.1 ≠ k) → L[k]? = listed[k]?

theorem Puts.nil {a A : Act} (h : Puts ops [] a A) : A = a := by
  obtain ⟨t, d⟩ := a
  obtain ⟨t', d'⟩ := A
  have h1 : d' = d := h.defers
  have h2 : t' = t := by
    apply Array.ext_getElem?
    intro i
    exact h.miss i (fun p hp => by cases hp)
  rw [h1, h2]
theorem Lists.nil {listed L : Array Bool} (h : Lists [] listed L) : L = listed := by
  apply Array.ext_getElem?
  intro i
  exact h.miss i (fun p hp => by cases hp)

theorem eval_puts {hd : List (Nat × Value)} {a A : Act} (h : Puts ops hd a A) {x : Operand} (hx : ∀ p ∈ hd, ∀ o, ops[p.1]? = some o → ∀ d, o.dst = some d → x ≠ .tmp d) : A.eval x = a.eval x := by
  cases x with
  | tmp t =>
    have := h.miss t (fun p hp o ho hd' => hx p hp o ho t hd' rfl)
    simp only [Act.eval, Array.getD_eq_getD_getElem?, this]
  | _ => rfl

theorem wanted_puts {hd : List (Nat × Value)} {a A : Act} (h : Puts ops hd a A) {o : Oper} (hx : ∀ p ∈ hd, ∀ op, ops[p.1]? = some op → ∀ d, op.dst = some d → d ∉ o.looksAt ops) :
    Region.wanted o (yielded ops A.tmps) = Region.wanted o (yielded ops a.tmps) := by
  unfold Region.wanted
  cases hg : o.guard with
  | none => rfl
  | some gw =>
    obtain ⟨g, want⟩ := gw
    have hy : yielded ops A.tmps g = yielded ops a.tmps g := by
      unfold yielded
      cases ht : (ops[g]?).bind (·.dst) with
      | none => rfl
      | some t =>
        have := h.miss t (fun p hp op ho hd' => hx p hp op ho t hd' (by simp [Oper.looksAt, hg, ht]))
        simp only [Option.bind_some, this]
    simp only [hy]

theorem execOp_puts {hd : List (Nat × Value)} {a A : Act} (h : Puts ops hd a A) {o : Oper} (hs : ∀ cs b, o.op ≠ .select cs b) (hx : ∀ p ∈ hd, ∀ op, ops[p.1]? = some op → ∀ d, op.dst = some d → d ∉ o.looksAt ops) :
    execOp A.eval o = execOp a.eval o :=
  execOp_congr o hs fun x hxo => eval_puts h fun p hp op ho d hd' hxd => hx p hp op ho d hd' (by
    subst hxd
    exact List.mem_append_left _ (List.mem_filterMap.2 ⟨.tmp d, by simpa using hxo, rfl⟩))

/-- Whatever order is picked; behind each operation of J the world meets S. -/
def wpAnyS (P : Program) (ops : Array Oper) (Q : Exit → Act → World → Prop) (S : World → Prop) (J : Nat) : Nat → Array Bool → Act → World → Prop
  | 0, listed, a, w => Region.ready .any ops listed = [] ∧ Q .normal a w
  | f + 1, listed, a, w => (Region.ready .any ops listed = [] → Q .normal a w) ∧
    ∀ i ∈ Region.ready .any ops listed, wpOp P ops Q i (fun a' w' => (J.testBit i = true → S w') ∧ wpAnyS P ops Q S J f (listed.setIfInBounds i true) a' w') a w

theorem any_of_S : ∀ f listed a w, wpAnyS P ops Q S J f listed a w → wpAny P .any ops Q f listed a w
  | 0, _, _, _, h => h
  | f + 1, _, _, _, h => ⟨h.1, fun i hi => wpOp_mono (fun a' w' h' => any_of_S f _ a' w' h'.2) (h.2 i hi)⟩

theorem getD_true_false {listed : Array Bool} {i : Nat} (h : listed.getD i true = false) : listed.getD i false = false := by
  rcases Nat.lt_or_ge i listed.size with h' | h'
  · simp only [Array.getD_eq_getD_getElem?, Array.getElem?_eq_getElem h', Option.getD_some] at h ⊢; exact h
  · simp [Array.getElem?_eq_none h'] at h
theorem getD_not_true {listed : Array Bool} {i : Nat} (hi : i < listed.size) (h : ¬ listed.getD i false = true) : listed.getD i true = false := by
  simp only [Array.getD_eq_getD_getElem?, Array.getElem?_eq_getElem hi, Option.getD_some] at h ⊢
  simpa using h

/-- Among the unlisted heads one may come up. -/
theorem ready_of_heads {listed0 : Array Bool} (st : Stage ops M J listed0 H) {hd : List (Nat × Value)} {listed : Array Bool} (hsz : listed.size = ops.size)
    (hmono : ∀ k, listed0.getD k false = true → listed.getD k false = true)
    (hmem : ∀ p ∈ hd, p.1 ∈ H ∧ listed.getD p.1 true = false) (hall : ∀ i ∈ H, listed.getD i true = false → ∃ p ∈ hd, p.1 = i) :
    ∀ n, ∀ p ∈ hd, p.1 < n → ∃ r, r ∈ Region.ready .any ops listed := by
  intro n
  induction n with
  | zero => intro p _ h; omega
  | succ n ih =>
    intro p hp hlt
    obtain ⟨hH, hun⟩ := hmem p hp
    have hi := (st.inr _ hH).1
    have ho : ops[p.1]? = some ops[p.1] := Array.getElem?_eq_getElem hi
    by_cases hpre : ∀ e ∈ ops[p.1].after, Region.binds .any e = true → listed.getD e.on false = true
    · exact ⟨p.1, mem_ready.2 ⟨hun, _, ho, hpre⟩⟩
    · have : ∃ e, e ∈ ops[p.1].after ∧ Region.binds .any e = true ∧ ¬ listed.getD e.on false = true := by
        false_or_by_contra
        rename_i hne
        exact hpre fun e he hb => by
          false_or_by_contra
          rename_i hl
          exact hne ⟨e, he, hb, hl⟩
      obtain ⟨e, he, hb, hl⟩ := this
      rcases st.pred _ hH _ ho e he hb with h0 | ⟨heH, helt⟩
      · exact (hl (hmono _ h0)).elim
      · have heun := getD_not_true (by rw [hsz]; exact (st.inr _ heH).1) hl
        obtain ⟨p', hp', hpe⟩ := hall _ heH heun
        exact ih p' hp' (by omega)

theorem Closed.set {listed : Array Bool} (hc : Closed ops listed) {j : Nat} (hj : j ∈ Region.ready .any ops listed) : Closed ops (listed.setIfInBounds j true) := by
  obtain ⟨_, oj, hoj, hall⟩ := mem_ready.1 hj
  intro k ok hok hl e he hb
  by_cases hkj : j = k
  · subst hkj
    obtain rfl : ok = oj := Option.some.inj (hok.symm.trans hoj)
    exact getD_set_true (hall e he hb)
  · rw [getD_set_ne false hkj] at hl
    exact getD_set_true (hc k ok hok hl e he hb)

/-- An operation that is no head comes up ahead of heads: what it does from A it does from a. -/
theorem wpOp_agree {j : Nat} {oj : Oper} {hd : List (Nat × Value)} {a A : Act} {w : World} {K K' : Act → World → Prop} (hoj : ops[j]? = some oj) (hput : Puts ops hd a A)
    (hex : execOp A.eval oj = execOp a.eval oj) (hwt : Region.wanted oj (yielded ops A.tmps) = Region.wanted oj (yielded ops a.tmps))
    (hQ : ∀ c (a : Act) t w, Q (.panic c) { a with tmps := t } w → Q (.panic c) a w)
    (hK : ∀ ds u w', K (({ A with defers := ds } : Act).put oj.dst u) w' → K' (({ a with defers := ds } : Act).put oj.dst u) w') (h : wpOp P ops Q j K A w) : wpOp P ops Q j K' a w := by
  have hA : A = { a with tmps := A.tmps } := by
    obtain ⟨t, d⟩ := A
    have h1 : d = a.defers := hput.defers
    rw [h1]
  have hQ' : ∀ c w, Q (.panic c) A w → Q (.panic c) a w := fun c w hq => hQ c a A.tmps w (by rw [← hA]; exact hq)
  unfold wpOp at h ⊢
  simp only [hoj] at h ⊢
  rw [hwt] at h
  split
  · rename_i hw
    rw [if_pos hw] at h
    rcases h with h | ⟨hasks, hlets⟩
    · left
      unfold Oper.wp at h ⊢
      rw [hex] at h
      generalize (execOp a.eval oj).run P w = r at *
      cases r with
      | ok n w' =>
        cases n <;> simp only [Oper.upon] at h ⊢
        case value u => exact hK _ _ _ (by rw [← hput.defers]; exact h)
        case skip => exact hK _ _ _ (by rw [← hput.defers]; exact h)
        case defer d =>
          rw [hput.defers] at h
          exact hK _ _ _ h
        case enter f args =>
          refine Calls.mono h fun e w'' he => ?_
          cases e with
          | returned u => exact hK _ _ _ (by rw [← hput.defers]; exact he)
          | panicked c => exact hQ' _ _ he
          | outgrown => exact he
        case row row args => exact Rows.mono h fun u w'' he => hK _ _ _ (by rw [← hput.defers]; exact he)
      | halt x w' =>
        cases x <;> simp only [Oper.upon] at h ⊢
        case panic u => exact hQ' _ _ h
    · right
      refine ⟨?_, hlets⟩
      unfold Oper.asks at hasks ⊢
      rw [hex] at hasks
      exact hasks
  · rename_i hw
    rw [if_neg hw] at h
    exact hK a.defers undef w (by rw [← hput.defers]; exact h)

theorem any_of_heads (hsel : ∀ (j : Nat) (o : Oper) cs b, ops[j]? = some o → o.op ≠ .select cs b) (hM : maskOk ops M = true) {listed0 : Array Bool} (st : Stage ops M J listed0 H) (hsz0 : listed0.size = ops.size)
    (hSa : ∀ w o, S w → S (w.alloc o)) (hQ : ∀ c (a : Act) t w, Q (.panic c) { a with tmps := t } w → Q (.panic c) a w) :
    ∀ (n fuel : Nat) (hd : List (Nat × Value)) (listed L : Array Bool) (a A : Act) (w : World), n = fuel + hd.length → (hd.map (·.1)).Nodup →
      (∀ p ∈ hd, p.1 ∈ H ∧ listed.getD p.1 true = false) → (∀ i ∈ H, listed.getD i true = false → ∃ p ∈ hd, p.1 = i) → listed.size = ops.size → Closed ops listed →
      (∀ k, listed0.getD k false = true → listed.getD k false = true) →
      Puts ops hd a A → Lists hd listed L → ((∃ p ∈ hd, ∃ o, ops[p.1]? = some o ∧ needy J p.1 o = true) → S w) →
      (∀ p ∈ hd, ∀ o, ops[p.1]? = some o → YieldsIf P ops (fun w => loadLike o.op = true → S w) o p.2 A) →
      wpAnyS P ops Q S J fuel L A w → wpAnyS P ops Q S J n listed a w := by
  intro n
  induction n with
  | zero =>
    intro fuel hd listed L a A w hn _ _ _ _ _ _ hput hlst _ _ h
    have h1 : hd = [] := List.eq_nil_of_length_eq_zero (by omega)
    have h2 : fuel = 0 := by omega
    subst h1 h2
    rw [← hput.nil, ← hlst.nil]
    exact h
  | succ n ih =>
    intro fuel hd listed L a A w hn hnd hmem hall hsz hcl hmono hput hlst hS hy h
    by_cases hne : hd = []
    · subst hne
      have h2 : fuel = n + 1 := by simpa using hn.symm
      subst h2
      rw [← hput.nil, ← hlst.nil]
      exact h
    obtain ⟨p0, hp0⟩ := List.exists_mem_of_ne_nil hd hne
    have hun0 : ∀ k, k < ops.size → listed.getD k true = false → listed0.getD k true = false := fun k hk hun =>
      getD_not_true (by rw [hsz0]; exact hk) fun h0 => by
        have h1 := hmono k h0
        rw [getD_true_false hun] at h1
        cases h1
    refine ⟨fun h0 => ?_, fun j hj => ?_⟩
    · obtain ⟨r, hr⟩ := ready_of_heads st hsz hmono hmem hall (p0.1 + 1) p0 hp0 (Nat.lt_succ_self _)
      rw [h0] at hr
      cases hr
    · obtain ⟨hjun, oj, hoj, hpre⟩ := mem_ready.1 hj
      have hjo : j < ops.size := (Array.getElem?_eq_some_iff.1 hoj).1
      have hjs : j < listed.size := by rw [hsz]; exact hjo
      have hjun0 := hun0 j hjo hjun
      have hnm : ∀ p ∈ hd, ¬ (M.getD j 0).testBit p.1 = true := fun p hp hb => by
        have h1 := mask_spec hM hcl (st.inr _ (hmem p hp).1).1 (j + 1) j (Nat.lt_succ_self _) oj hoj hpre hb
        rw [getD_true_false (hmem p hp).2] at h1
        cases h1
      have hlook : ∀ p ∈ hd, ∀ op, ops[p.1]? = some op → ∀ d, op.dst = some d → d ∉ oj.looksAt ops := fun p hp op hop d hd' => by
        by_cases hpj : j = p.1
        · subst hpj
          obtain rfl : op = oj := Option.some.inj (hop.symm.trans hoj)
          obtain ⟨d0, hd0, hno⟩ := st.self _ (hmem p hp).1 _ hop
          obtain rfl : d0 = d := Option.some.inj (hd0.symm.trans hd')
          exact hno
        · rcases st.free _ (hmem p hp).1 _ hop j oj hoj hjun0 hpj with hb | ⟨hap, _⟩
          · exact (hnm p hp hb).elim
          · exact hap d hd'
      have hex := execOp_puts hput (fun cs b => hsel j oj cs b hoj) hlook
      have hwt := wanted_puts hput hlook
      have hmono' : ∀ k, listed0.getD k false = true → (listed.setIfInBounds j true).getD k false = true := fun k hk => getD_set_true (hmono k hk)
      by_cases hjd : ∃ p ∈ hd, p.1 = j
      · obtain ⟨⟨j', v⟩, hp, hpj⟩ := hjd
        dsimp only at hpj
        subst hpj
        obtain ⟨l1, l2, rfl⟩ := List.append_of_mem hp
        have hya : YieldsIf P ops (fun w => loadLike oj.op = true → S w) oj v a := (hy _ hp oj hoj).of_same hex.symm hwt.symm
        have hSw : loadLike oj.op = true → S w := fun hl => hS ⟨_, hp, oj, hoj, by simp [needy, hl]⟩
        refine hya.wpOp hoj hSw ⟨fun hJ => hS ⟨_, hp, oj, hoj, by simp [needy, hJ]⟩, ?_⟩
        have hmem' : ∀ p ∈ l1 ++ l2, p ∈ l1 ++ (j', v) :: l2 := fun p hp' => by
          rcases List.mem_append.1 hp' with h1 | h1
          · exact List.mem_append_left _ h1
          · exact List.mem_append_right _ (List.mem_cons_of_mem _ h1)
        have hmemc : ∀ p ∈ l1 ++ (j', v) :: l2, p ∈ l1 ++ l2 ∨ p = (j', v) := fun p hp' => by
          rcases List.mem_append.1 hp' with h1 | h1
          · exact .inl (List.mem_append_left _ h1)
          · rcases List.mem_cons.1 h1 with h1 | h1
            · exact .inr h1
            · exact .inl (List.mem_append_right _ h1)
        have hnd' : ((l1 ++ l2).map (·.1)).Nodup ∧ ∀ p ∈ l1 ++ l2, p.1 ≠ j' := by
          simp only [List.map_append, List.map_cons, List.nodup_append, List.nodup_cons] at hnd ⊢
          obtain ⟨n1, ⟨n2, n3⟩, n4⟩ := hnd
          refine ⟨⟨n1, n3, fun x hx y hy' => n4 x hx y (List.mem_cons_of_mem _ hy')⟩, fun p hp' => ?_⟩
          rcases List.mem_append.1 hp' with h1 | h1
          · exact n4 p.1 (List.mem_map.2 ⟨p, h1, rfl⟩) j' List.mem_cons_self
          · intro e
            exact n2 (e ▸ List.mem_map.2 ⟨p, h1, rfl⟩)
        obtain ⟨d, hdj, hself⟩ := st.self _ (hmem _ hp).1 _ hoj
        refine ih fuel (l1 ++ l2) (listed.setIfInBounds j' true) L (a.put oj.dst v) A w (by simp only [List.length_append, List.length_cons] at hn ⊢; omega) hnd'.1 ?_ ?_ (by simp [hsz]) (hcl.set hj) hmono' ?_ ?_
          (fun ⟨p, hp', o, ho, hl⟩ => hS ⟨p, hmem' p hp', o, ho, hl⟩) (fun p hp' => hy p (hmem' p hp')) h
        · intro p hp'
          exact ⟨(hmem p (hmem' p hp')).1, by rw [getD_set_ne true (Ne.symm (hnd'.2 p hp'))]; exact (hmem p (hmem' p hp')).2⟩
        · intro i hi hun
          have hij : i ≠ j' := fun e => by
            subst e
            simp only [Array.getD_eq_getD_getElem?, Array.getElem?_setIfInBounds_self_of_lt hjs, Option.getD_some] at hun
            cases hun
          rw [getD_set_ne true (Ne.symm hij)] at hun
          obtain ⟨p, hp', he⟩ := hall i hi hun
          rcases hmemc p hp' with h1 | rfl
          · exact ⟨p, h1, he⟩
          · exact absurd he.symm hij
        · refine ⟨by rw [hput.defers, hdj]; rfl, by rw [hput.size, hdj]; simp [Act.put], fun p hp' o ho d' hd' hlt => ?_, fun t ht => ?_⟩
          · exact hput.hit p (hmem' p hp') o ho d' hd' (by rw [hdj] at hlt; simpa [Act.put] using hlt)
          · by_cases htd : t = d
            · subst htd
              rcases Nat.lt_or_ge t a.tmps.size with h1 | h1
              · rw [hput.hit _ hp oj hoj t hdj h1, hdj]
                simp [Act.put, h1]
              · rw [hdj, Array.getElem?_eq_none (by rw [hput.size]; exact h1), Array.getElem?_eq_none (by simpa [Act.put] using h1)]
            · rw [hput.miss t (fun p hp' o ho hd' => by
                rcases hmemc p hp' with h1 | rfl
                · exact ht p h1 o ho hd'
                · obtain rfl : o = oj := Option.some.inj (ho.symm.trans hoj)
                  rw [hdj] at hd'
                  exact htd (Option.some.inj hd').symm)]
              rw [hdj]
              simp [Act.put, Array.getElem?_setIfInBounds_ne (Ne.symm htd)]
        · refine ⟨by simp [hlst.size], fun p hp' hlt => hlst.hit p (hmem' p hp') (by simpa using hlt), fun k hk => ?_⟩
          by_cases hkj : k = j'
          · subst hkj
            rw [hlst.hit _ hp hjs, Array.getElem?_setIfInBounds_self_of_lt hjs]
          · rw [Array.getElem?_setIfInBounds_ne (Ne.symm hkj)]
            exact hlst.miss k (fun p hp' => by
              rcases hmemc p hp' with h1 | rfl
              · exact hk p h1
              · exact Ne.symm hkj)
      · have hjd' : ∀ p ∈ hd, p.1 ≠ j := fun p hp e => hjd ⟨p, hp, e⟩
        have hjH : j ∉ H := fun hH => hjd (hall j hH hjun)
        have hap : ∀ p ∈ hd, ∀ op, ops[p.1]? = some op → op.apart ops oj = true ∧ (needy J p.1 op = true → gentle oj.op = true ∨ J.testBit j = true) := fun p hp op hop => by
          rcases st.free _ (hmem p hp).1 _ hop j oj hoj hjun0 (Ne.symm (hjd' p hp)) with hb | ⟨_, hap⟩
          · exact (hnm p hp hb).elim
          · exact hap.resolve_left hjH
        have hLj : L[j]? = listed[j]? := hlst.miss j hjd'
        have hjL : j ∈ Region.ready .any ops L := mem_ready.2 ⟨by simpa only [Array.getD_eq_getD_getElem?, hLj] using hjun, oj, hoj, fun e he hb => by
          have hl := hpre e he hb
          by_cases hep : ∃ p ∈ hd, p.1 = e.on
          · obtain ⟨p, hp, hpe⟩ := hep
            have := hlst.hit p hp (by rw [hsz]; exact (st.inr _ (hmem p hp).1).1)
            rw [hpe] at this
            simp [this]
          · have := hlst.miss e.on (fun p hp he' => hep ⟨p, hp, he'⟩)
            simpa only [Array.getD_eq_getD_getElem?, this] using hl⟩
        cases fuel with
        | zero => rw [h.1] at hjL; cases hjL
        | succ f =>
          have h1 := h.2 j hjL
          have step : ∀ ds u w', ((∃ p ∈ hd, ∃ o, ops[p.1]? = some o ∧ needy J p.1 o = true) → S w') → wpAnyS P ops Q S J f (L.setIfInBounds j true) (({ A with defers := ds } : Act).put oj.dst u) w' →
              wpAnyS P ops Q S J n (listed.setIfInBounds j true) (({ a with defers := ds } : Act).put oj.dst u) w' := fun ds u w' hS' h' => by
            refine ih f hd (listed.setIfInBounds j true) (L.setIfInBounds j true) _ _ w' (by omega) hnd ?_ ?_ (by simp [hsz]) (hcl.set hj) hmono' ?_ ?_ hS' ?_ h'
            · intro p hp
              exact ⟨(hmem p hp).1, by rw [getD_set_ne true (Ne.symm (hjd' p hp))]; exact (hmem p hp).2⟩
            · intro i hi hun
              have hij : i ≠ j := fun e => by subst e; exact hjH hi
              rw [getD_set_ne true (Ne.symm hij)] at hun
              exact hall i hi hun
            · cases hdj : oj.dst with
              | none => exact ⟨rfl, hput.size, hput.hit, hput.miss⟩
              | some d =>
                refine ⟨rfl, by simp [Act.put, hput.size], fun p hp o ho d' hd' hlt => ?_, fun t ht => ?_⟩
                · have hne' : d ≠ d' := fun e => by
                    have := (Oper.apart_spec (hap p hp o ho).1).2.1 d' hd'
                    exact this (by rw [hdj, e])
                  simp only [Act.put, Array.getElem?_setIfInBounds_ne hne']
                  exact hput.hit p hp o ho d' hd' (by simpa [Act.put] using hlt)
                · by_cases htd : d = t
                  · subst htd
                    rcases Nat.lt_or_ge d a.tmps.size with h2 | h2
                    · simp [Act.put, h2, hput.size]
                    · simp [Act.put, h2, hput.size]
                  · simp only [Act.put, Array.getElem?_setIfInBounds_ne htd]
                    exact hput.miss t ht
            · refine ⟨by simp [hlst.size], fun p hp hlt => ?_, fun k hk => ?_⟩
              · rw [Array.getElem?_setIfInBounds_ne (Ne.symm (hjd' p hp))]
                exact hlst.hit p hp (by simpa using hlt)
              · by_cases hkj : j = k
                · subst hkj
                  rw [Array.getElem?_setIfInBounds_self_of_lt hjs, Array.getElem?_setIfInBounds_self_of_lt (by rw [hlst.size]; exact hjs)]
                · rw [Array.getElem?_setIfInBounds_ne hkj, Array.getElem?_setIfInBounds_ne hkj]
                  exact hlst.miss k hk
            · intro p hp o ho
              have hlk := (Oper.apart_spec (hap p hp o ho).1).2.2
              exact (hy p hp o ho).of_same (execOp_put (ops := ops) o (fun cs b => hsel p.1 o cs b ho) ({ A with defers := ds } : Act) oj.dst u (fun d hd' => hlk d hd')) (wanted_put o ({ A with defers := ds } : Act) oj.dst u (fun d hd' => hlk d hd'))
          by_cases hgl : (∃ p ∈ hd, ∃ o, ops[p.1]? = some o ∧ needy J p.1 o = true) ∧ gentle oj.op = true
          · -- it only makes memory: S stands
            obtain ⟨hld, hgen⟩ := hgl
            have hSw := hS hld
            unfold wpOp at h1 ⊢
            simp only [hoj] at h1 ⊢
            rw [hwt] at h1
            have hAd : ∀ u, ({ A with defers := a.defers } : Act).put oj.dst u = A.put oj.dst u := fun u => by rw [← hput.defers]
            split
            · rename_i hw
              rw [if_pos hw] at h1
              rcases h1 with h1 | ⟨hasks, hlets⟩
              · left
                unfold Oper.wp at h1 ⊢
                rw [hex] at h1
                rcases gentle_run (P := P) hgen a.eval w with ⟨u, x, hr⟩ | ⟨x, w', hr, hnp⟩
                · rw [hr] at h1 ⊢
                  exact ⟨h1.1, step a.defers u _ (fun _ => hSa w x hSw) (by rw [hAd]; exact h1.2)⟩
                · rw [hr] at h1 ⊢
                  cases x <;> first | exact h1.elim | exact (hnp _ rfl).elim
              · right
                refine ⟨?_, hlets⟩
                unfold Oper.asks at hasks ⊢
                rw [hex] at hasks
                exact hasks
            · rename_i hw
              rw [if_neg hw] at h1
              exact ⟨h1.1, step a.defers undef w (fun _ => hSw) (by rw [hAd]; exact h1.2)⟩
          · refine wpOp_agree hoj hput hex hwt hQ (fun ds u w' hk => ⟨hk.1, step ds u w' (fun hld => ?_) hk.2⟩) h1
            obtain ⟨p, hp, o, ho, hl⟩ := hld
            rcases (hap p hp o ho).2 hl with hg | hJ
            · exact (hgl ⟨⟨p, hp, o, ho, hl⟩, hg⟩).elim
            · exact hk.1 hJ
/-- The heads, one behind the other: each yields its value in every world that meets S. -/
def wpHeads (P : Program) (ops : Array Oper) (S : World → Prop) (L : Act → Prop) : List Oper → Act → Prop
  | [], a => L a
  | o :: os, a => ∃ v, YieldsIf P ops (fun w => loadLike o.op = true → S w) o v a ∧ wpHeads P ops S L os (a.put o.dst v)

/-- No head looks at what a later one writes. -/
def orderB (ops : Array Oper) : List Oper → Bool
  | [] => true
  | o :: os => os.all (fun o' => match o'.dst with | some d => !(o.looksAt ops).contains d | none => true) && orderB ops os

theorem heads_go {L : Act → Prop} (hsel : ∀ (j : Nat) (o : Oper) cs b, ops[j]? = some o → o.op ≠ .select cs b) : ∀ (l : List Nat), l.Nodup →
    (∀ i ∈ l, ∃ o, ops[i]? = some o ∧ ∃ d, o.dst = some d ∧ d ∉ o.looksAt ops) → (∀ i ∈ l, ∀ j ∈ l, i ≠ j → ∀ oi oj, ops[i]? = some oi → ops[j]? = some oj → oi.dst ≠ oj.dst) →
    orderB ops (l.flatMap fun i => (ops.toList.drop i).take 1) = true → ∀ a, wpHeads P ops S L (l.flatMap fun i => (ops.toList.drop i).take 1) a →
    ∃ (hd : List (Nat × Value)) (A : Act), hd.map (·.1) = l ∧ Puts ops hd a A ∧ L A ∧ ∀ p ∈ hd, ∀ o, ops[p.1]? = some o → YieldsIf P ops (fun w => loadLike o.op = true → S w) o p.2 A
  | [], _, _, _, _, a, h => ⟨[], a, rfl, ⟨rfl, rfl, fun p hp => (by cases hp), fun _ _ => rfl⟩, h, fun p hp => (by cases hp)⟩
  | i :: l, hnd, hin, hds, hor, a, h => by
    obtain ⟨o, ho, d, hd, hself⟩ := hin i List.mem_cons_self
    have hpick : (ops.toList.drop i).take 1 = [o] := by
      have hlt : i < ops.toList.length := by have := (Array.getElem?_eq_some_iff.1 ho).1; simpa using this
      rw [List.drop_eq_getElem_cons hlt]
      have : ops.toList[i] = o := by have := ho; rw [Array.getElem?_eq_some_iff] at this; obtain ⟨_, h1⟩ := this; simpa using h1
      simp [this]
    simp only [List.flatMap_cons, hpick, List.cons_append, List.nil_append] at h hor
    obtain ⟨v, hy, hrest⟩ := h
    simp only [orderB, Bool.and_eq_true] at hor
    obtain ⟨hor1, hor2⟩ := hor
    have hnd' := List.nodup_cons.1 hnd
    obtain ⟨hd', A, hmap, hput, hL, hall⟩ := heads_go hsel l hnd'.2 (fun k hk => hin k (List.mem_cons_of_mem _ hk)) (fun x hx y hy' => hds x (List.mem_cons_of_mem _ hx) y (List.mem_cons_of_mem _ hy')) hor2 _ hrest
    have hmem : ∀ p ∈ hd', p.1 ∈ l := fun p hp => by rw [← hmap]; exact List.mem_map.2 ⟨p, hp, rfl⟩
    have hlater : ∀ p ∈ hd', ∀ op, ops[p.1]? = some op → ∀ d', op.dst = some d' → d' ∉ o.looksAt ops := fun p hp op hop d' hd'' => by
      have hm : op ∈ l.flatMap fun i => (ops.toList.drop i).take 1 := List.mem_flatMap.2 ⟨p.1, hmem p hp, by
        have hlt : p.1 < ops.toList.length := by have := (Array.getElem?_eq_some_iff.1 hop).1; simpa using this
        rw [List.drop_eq_getElem_cons hlt]
        have : ops.toList[p.1] = op := by have := hop; rw [Array.getElem?_eq_some_iff] at this; obtain ⟨_, h1⟩ := this; simpa using h1
        simp [this]⟩
      have := List.all_eq_true.1 hor1 op hm
      rw [hd''] at this
      simpa using this
    refine ⟨(i, v) :: hd', A, by simp [hmap], ⟨by rw [hput.defers, hd]; rfl, by rw [hput.size, hd]; simp [Act.put], fun p hp op hop d' hd'' hlt => ?_, fun t ht => ?_⟩, hL, fun p hp op hop => ?_⟩
    · rcases List.mem_cons.1 hp with rfl | hp
      · obtain rfl : op = o := Option.some.inj (hop.symm.trans ho)
        obtain rfl : d' = d := Option.some.inj (hd''.symm.trans hd)
        rw [hput.miss d' (fun p hp op' hop' e => hds i List.mem_cons_self p.1 (List.mem_cons_of_mem _ (hmem p hp)) (fun e' => hnd'.1 (e' ▸ hmem p hp)) op op' ho hop' (by rw [hd, e]))]
        rw [hd]
        simp [Act.put, hlt]
      · exact hput.hit p hp op hop d' hd'' (by rw [hd]; simpa [Act.put] using hlt)
    · rw [hput.miss t (fun p hp op hop e => ht p (List.mem_cons_of_mem _ hp) op hop e)]
      have htd : t ≠ d := fun e => ht (i, v) List.mem_cons_self o ho (by rw [hd, e])
      rw [hd]
      simp [Act.put, Array.getElem?_setIfInBounds_ne (Ne.symm htd)]
    · rcases List.mem_cons.1 hp with rfl | hp
      · obtain rfl : op = o := Option.some.inj (hop.symm.trans ho)
        have hself' : ∀ d', op.dst = some d' → d' ∉ op.looksAt ops := fun d' hd'' => by
          obtain rfl : d' = d := Option.some.inj (hd''.symm.trans hd)
          exact hself
        have hy1 : YieldsIf P ops (fun w => loadLike op.op = true → S w) op v (a.put op.dst v) := hy.of_same (execOp_put op (fun cs b => hsel i op cs b ho) a op.dst v hself') (wanted_put op a op.dst v hself')
        exact hy1.of_same (execOp_puts hput (fun cs b => hsel i op cs b ho) hlater) (wanted_puts hput hlater)
      · exact hall p hp op hop


/-- The check of a stage. -/
def stageB (ops : Array Oper) (M : List Nat) (J : Nat) (listed : Array Bool) (H : List Nat) : Bool :=
  decide H.Nodup && decide (listed.size = ops.size) && orderB ops (H.flatMap fun i => (ops.toList.drop i).take 1) && H.all (fun i => match ops[i]? with
    | none => false
    | some oi =>
      !listed.getD i true && oi.after.all (fun e => !Region.binds .any e || listed.getD e.on false || (H.contains e.on && decide (e.on < i))) &&
      (match oi.dst with | some d => !(oi.looksAt ops).contains d | none => false) &&
      (List.range ops.size).all (fun j => j == i || (match ops[j]? with
        | some oj => (listed.getD j true || (M.getD j 0).testBit i ||
            ((match oi.dst with | some d => !(oj.looksAt ops).contains d | none => true) && (H.contains j || (oi.apart ops oj && (!needy J i oi || gentle oj.op || J.testBit j))))) && (!H.contains j || oi.dst != oj.dst)
        | none => true)))

theorem stage_of {listed : Array Bool} (h : stageB ops M J listed H = true) : Stage ops M J listed H ∧ H.Nodup ∧ listed.size = ops.size ∧ orderB ops (H.flatMap fun i => (ops.toList.drop i).take 1) = true := by
  simp only [stageB, Bool.and_eq_true, decide_eq_true_eq] at h
  obtain ⟨⟨⟨h0, h1⟩, h2⟩, h3⟩ := h
  have key : ∀ i ∈ H, ∃ oi, ops[i]? = some oi ∧ listed.getD i true = false ∧ (∀ e ∈ oi.after, Region.binds .any e = true → listed.getD e.on false = true ∨ (e.on ∈ H ∧ e.on < i)) ∧ (∃ d, oi.dst = some d ∧ d ∉ oi.looksAt ops) ∧
      ∀ (j : Nat) oj, ops[j]? = some oj → j ≠ i → (listed.getD j true = false → (M.getD j 0).testBit i = true ∨ ((∀ d, oi.dst = some d → d ∉ oj.looksAt ops) ∧ (j ∈ H ∨ (oi.apart ops oj = true ∧ (needy J i oi = true → gentle oj.op = true ∨ J.testBit j = true))))) ∧ (j ∈ H → oi.dst ≠ oj.dst) := by
    intro i hi
    have h4 := List.all_eq_true.1 h3 i hi
    cases ho : ops[i]? with
    | none => rw [ho] at h4; cases h4
    | some oi =>
      rw [ho] at h4
      simp only [Bool.and_eq_true] at h4
      obtain ⟨⟨⟨h4a, h5⟩, h6⟩, h7⟩ := h4
      refine ⟨oi, rfl, by simpa using h4a, fun e he hb => ?_, ?_, fun j oj hj hne => ?_⟩
      · have := Array.all_eq_true_iff_forall_mem.1 h5 e he
        simp only [hb, Bool.not_true, Bool.false_or, Bool.or_eq_true, Bool.and_eq_true, decide_eq_true_eq, List.contains_iff_mem] at this
        exact this
      · cases hd : oi.dst with
        | none => rw [hd] at h6; cases h6
        | some d => rw [hd] at h6; exact ⟨d, rfl, by simpa using h6⟩
      · have h8 := List.all_eq_true.1 h7 j (List.mem_range.2 (Array.getElem?_eq_some_iff.1 hj).1)
        rw [hj] at h8
        simp only [Bool.or_eq_true, beq_iff_eq, hne, false_or, Bool.and_eq_true, List.contains_iff_mem] at h8
        obtain ⟨h9, h10⟩ := h8
        refine ⟨fun hun => ?_, fun hjH => ?_⟩
        · rcases h9 with (h9 | h9) | ⟨h9, h11⟩
          · rw [hun] at h9; cases h9
          · exact .inl h9
          · refine .inr ⟨fun d hd => by rw [hd] at h9; simpa using h9, h11.imp id fun h12 => ⟨h12.1, fun hl => ?_⟩⟩
            rcases h12.2 with (h13 | h13) | h13
            · simp [hl] at h13
            · exact .inl h13
            · exact .inr h13
        · rcases h10 with h10 | h10
          · simp [hjH] at h10
          · simpa using h10
  have uniq : ∀ {i : Nat} {oi oi' : Oper}, ops[i]? = some oi → ops[i]? = some oi' → oi = oi' := fun h h' => Option.some.inj (h.symm.trans h')
  refine ⟨⟨fun i hi => ?_, fun i hi oi ho => ?_, fun i hi oi ho => ?_, fun i hi oi ho j oj hj hun hne => ?_, fun i hi j hj hne oi oj ho hoj => ?_⟩, h0, h1, h2⟩
  · obtain ⟨oi, ho, hl, _⟩ := key i hi
    exact ⟨(Array.getElem?_eq_some_iff.1 ho).1, hl⟩
  · obtain ⟨oi', ho', _, hp, _⟩ := key i hi
    obtain rfl := uniq ho ho'
    exact hp
  · obtain ⟨oi', ho', _, _, hs, _⟩ := key i hi
    obtain rfl := uniq ho ho'
    exact hs
  · obtain ⟨oi', ho', _, _, _, hf⟩ := key i hi
    obtain rfl := uniq ho ho'
    exact (hf j oj hj hne).1 hun
  · obtain ⟨oi', ho', _, _, _, hf⟩ := key i hi
    obtain rfl := uniq ho ho'
    exact (hf j oj hoj (Ne.symm hne)).2 hj

/-- THE REST OF A REGION, from a state of its plan on. -/
structure Rest (P : Program) (ops : Array Oper) (M : List Nat) (J : Nat) (S : World → Prop) (Q : Exit → Act → World → Prop) (f : Nat) (listed : Array Bool) (a : Act) (w : World) : Prop where
  out : Closed ops listed → wpAnyS P ops Q S J f listed a w

/-- THE BEGINNING. -/
theorem region_start {id : Nat} {l : List Oper} {a : Act} {w : World} (M : List Nat) (J : Nat) (S : World → Prop) (hm : P.follows .mixedOrders = true)
    (h : Rest P l.toArray M J S Q l.length (Array.replicate l.length false) a w.drew) : (Code.region id l.toArray true).wp P Q a w := by
  refine wp_region_any hm (any_of_S (J := J) (S := S) _ _ _ _ ?_)
  have := h.out fun j _ _ h => by
    rw [show (Array.replicate l.length false).getD j false = false from by
      rcases Nat.lt_or_ge j l.length with h | h <;> simp [h]] at h
    cases h
  simpa using this

/-- HEADS: what only computes or reads, and may come up: taken first. -/
theorem stage_heads {f f' : Nat} {l : List Oper} {listed L : Array Bool} {a : Act} {w : World} (H : List Nat) (hB : (Region.noSelect l.toArray && maskOk l.toArray M && stageB l.toArray M J listed H) = true)
    (hL : H.foldl (fun b i => b.setIfInBounds i true) listed = L) (hf : f = f' + H.length) (hQ : ∀ c (a : Act) t w, Q (.panic c) { a with tmps := t } w → Q (.panic c) a w)
    (hSa : ∀ w o, S w → S (w.alloc o)) (hS : (H.all fun i => match l.toArray[i]? with | some o => !needy J i o | none => true) = true ∨ S w)
    (h : wpHeads P l.toArray S (fun A => Rest P l.toArray M J S Q f' L A w) (H.flatMap fun i => (l.drop i).take 1) a) : Rest P l.toArray M J S Q f listed a w := by
  simp only [Bool.and_eq_true] at hB
  obtain ⟨⟨hsel0, hM⟩, hB1⟩ := hB
  obtain ⟨st, hnd, hsz, hor⟩ := stage_of hB1
  have hsel := Region.noSelect_spec hsel0
  obtain ⟨hd, A, hmap, hput, hR, hy⟩ := heads_go (P := P) (ops := l.toArray) (S := S) hsel H hnd (fun i hi => by
      have hlt := (st.inr i hi).1
      exact ⟨_, Array.getElem?_eq_getElem hlt, st.self i hi _ (Array.getElem?_eq_getElem hlt)⟩) st.dsts hor a (by simpa using h)
  subst hf
  have hlen : hd.length = H.length := by rw [← hmap]; simp
  have hfold : ∀ (H' : List Nat) (b : Array Bool) (k : Nat), (H'.foldl (fun b i => b.setIfInBounds i true) b).size = b.size ∧
      (H'.foldl (fun b i => b.setIfInBounds i true) b)[k]? = if k ∈ H' ∧ k < b.size then some true else b[k]? := by
    intro H'
    induction H' with
    | nil => intro b k; simp
    | cons i H' ih =>
      intro b k
      obtain ⟨h1, h2⟩ := ih (b.setIfInBounds i true) k
      refine ⟨by simpa using h1, ?_⟩
      simp only [List.foldl_cons, h2, Array.size_setIfInBounds, List.mem_cons]
      by_cases hk : k ∈ H'
      · by_cases hkb : k < b.size
        · simp [hk, hkb]
        · simp [hk, hkb]
      · by_cases hki : k = i
        · subst hki
          by_cases hkb : k < b.size
          · simp [hk, hkb]
          · simp [hk, hkb]
        · simp only [hk, hki, false_and, or_self, if_false]
          rw [Array.getElem?_setIfInBounds_ne (Ne.symm hki)]
  have hmemH : ∀ i, i ∈ H ↔ ∃ p ∈ hd, p.1 = i := fun i => by rw [← hmap]; simp
  refine ⟨fun hcl => ?_⟩
  have hclL : Closed l.toArray L := by
    intro j oj hoj hl e he hb
    have hget : ∀ k b, L.getD k b = if k ∈ H ∧ k < listed.size then true else listed.getD k b := fun k b => by
      simp only [Array.getD_eq_getD_getElem?, ← hL, (hfold H listed k).2]
      split <;> rfl
    rw [hget] at hl ⊢
    split
    · rfl
    · rename_i hno
      split at hl
      · rename_i hyes
        rcases st.pred j hyes.1 oj hoj e he hb with h1 | ⟨h1, _⟩
        · exact h1
        · exact (hno ⟨h1, by rw [hsz]; exact (st.inr _ h1).1⟩).elim
      · exact hcl j oj hoj hl e he hb
  exact any_of_heads (P := P) (Q := Q) (S := S) hsel hM st hsz hSa hQ _ f' hd listed L a A w (by omega) (by rw [hmap]; exact hnd)
    (fun p hp => ⟨(hmemH p.1).2 ⟨p, hp, rfl⟩, (st.inr _ ((hmemH p.1).2 ⟨p, hp, rfl⟩)).2⟩)
    (fun i hi _ => (hmemH i).1 hi) hsz hcl (fun _ h => h) hput
    ⟨by rw [← hL, (hfold H _ 0).1], fun p hp hlt => by
      rw [← hL, (hfold H _ p.1).2, if_pos ⟨(hmemH _).2 ⟨p, hp, rfl⟩, hlt⟩], fun k hk => by
      rw [← hL, (hfold H _ k).2, if_neg (fun h => by obtain ⟨p, hp, e⟩ := (hmemH k).1 h.1; exact hk p hp e)]⟩ (fun ⟨p, hp, o, ho, hl⟩ => by
      rcases hS with hS | hS
      · have := List.all_eq_true.1 hS p.1 ((hmemH _).2 ⟨p, hp, rfl⟩)
        rw [ho] at this
        simp [hl] at this
      · exact hS) hy (hR.out hclL)

/-- One operation comes up next: it alone. Behind it S is shown anew if it is one of J. -/
def stepPost (P : Program) (ops : Array Oper) (M : List Nat) (J : Nat) (S : World → Prop) (Q : Exit → Act → World → Prop) (f : Nat) (listed : Array Bool) (j : Nat) : Exit → Act → World → Prop
  | .normal, a, w => (J.testBit j = true → S w) ∧ Rest P ops M J S Q f listed a w
  | e, a, w => Q e a w

theorem step_post {f : Nat} {listed : Array Bool} {j : Nat} {a : Act} {w : World} (hS : J.testBit j = true → S w) (h : Rest P ops M J S Q f listed a w) : stepPost P ops M J S Q f listed j .normal a w := ⟨hS, h⟩

theorem pick_one {l : List Oper} {i : Nat} {listed : Array Bool} (hi : i ∈ Region.ready .any l.toArray listed) : ∃ o, l.toArray[i]? = some o ∧ (l.drop i).take 1 = [o] := by
  obtain ⟨_, o, ho, _⟩ := mem_ready.1 hi
  refine ⟨o, ho, ?_⟩
  have hlt : i < l.length := by have := (Array.getElem?_eq_some_iff.1 ho).1; simpa using this
  have h1 : l[i] = o := by have := ho; rw [Array.getElem?_eq_some_iff] at this; obtain ⟨_, h1⟩ := this; simpa using h1
  rw [List.drop_eq_getElem_cons hlt, h1]
  rfl

theorem stage_go {l : List Oper} {f i : Nat} {listed L : Array Bool} {a : Act} {w : World} (hcl : Closed l.toArray listed) (hi : i ∈ Region.ready .any l.toArray listed) (hL : listed.setIfInBounds i true = L)
    (h : wpList P l.toArray (stepPost P l.toArray M J S Q f L i) ((l.drop i).take 1) a w) :
    wpOp P l.toArray Q i (fun a' w' => (J.testBit i = true → S w') ∧ wpAnyS P l.toArray Q S J f (listed.setIfInBounds i true) a' w') a w := by
  have hcl' := hcl.set hi
  obtain ⟨o, ho, hp⟩ := pick_one hi
  rw [hp] at h
  unfold wpOp
  simp only [ho]
  simp only [wpList] at h
  rw [hL] at hcl' ⊢
  split
  · rename_i hw
    rw [if_pos hw] at h
    refine h.imp (fun h1 => ?_) id
    have : o.wp P a w (fun a' w' => (J.testBit i = true → S w') ∧ wpAnyS P l.toArray Q S J f L a' w') (stepPost P l.toArray M J S Q f L i) := Oper.wp_mono (fun a' w' h2 => ⟨h2.1, h2.2.out hcl'⟩) h1
    exact this
  · rename_i hw
    rw [if_neg hw] at h
    exact ⟨h.1, h.2.out hcl'⟩

theorem stage_op {l : List Oper} {f : Nat} {listed L : Array Bool} {a : Act} {w : World} (j : Nat) (hr : Region.ready .any l.toArray listed = [j]) (hL : listed.setIfInBounds j true = L)
    (h : wpList P l.toArray (stepPost P l.toArray M J S Q f L j) ((l.drop j).take 1) a w) : Rest P l.toArray M J S Q (f + 1) listed a w := by
  refine ⟨fun hcl => ⟨fun h0 => (by rw [hr] at h0; cases h0), fun i hi => ?_⟩⟩
  have hi' := hi
  rw [hr] at hi'
  obtain rfl : i = j := by simpa using hi'
  exact stage_go hcl hi hL h

/-- Two may come up next. -/
theorem stage_two {l : List Oper} {f : Nat} {listed : Array Bool} {a : Act} {w : World} (j k : Nat) {Lj Lk : Array Bool} (hr : Region.ready .any l.toArray listed = [j, k])
    (hLj : listed.setIfInBounds j true = Lj) (hLk : listed.setIfInBounds k true = Lk)
    (h1 : wpList P l.toArray (stepPost P l.toArray M J S Q f Lj j) ((l.drop j).take 1) a w) (h2 : wpList P l.toArray (stepPost P l.toArray M J S Q f Lk k) ((l.drop k).take 1) a w) : Rest P l.toArray M J S Q (f + 1) listed a w := by
  refine ⟨fun hcl => ⟨fun h0 => (by rw [hr] at h0; cases h0), fun i hi => ?_⟩⟩
  have hi' := hi
  rw [hr] at hi'
  rcases List.mem_cons.1 hi' with rfl | hi'
  · exact stage_go hcl hi hLj h1
  · obtain rfl : i = k := by simpa using hi'
    exact stage_go hcl hi hLk h2

/-- Three may come up next. -/
theorem stage_three {l : List Oper} {f : Nat} {listed : Array Bool} {a : Act} {w : World} (j k m : Nat) {Lj Lk Lm : Array Bool} (hr : Region.ready .any l.toArray listed = [j, k, m])
    (hLj : listed.setIfInBounds j true = Lj) (hLk : listed.setIfInBounds k true = Lk) (hLm : listed.setIfInBounds m true = Lm)
    (h1 : wpList P l.toArray (stepPost P l.toArray M J S Q f Lj j) ((l.drop j).take 1) a w) (h2 : wpList P l.toArray (stepPost P l.toArray M J S Q f Lk k) ((l.drop k).take 1) a w)
    (h3 : wpList P l.toArray (stepPost P l.toArray M J S Q f Lm m) ((l.drop m).take 1) a w) : Rest P l.toArray M J S Q (f + 1) listed a w := by
  refine ⟨fun hcl => ⟨fun h0 => (by rw [hr] at h0; cases h0), fun i hi => ?_⟩⟩
  have hi' := hi
  rw [hr] at hi'
  rcases List.mem_cons.1 hi' with rfl | hi'
  · exact stage_go hcl hi hLj h1
  · rcases List.mem_cons.1 hi' with rfl | hi'
    · exact stage_go hcl hi hLk h2
    · obtain rfl : i = m := by simpa using hi'
      exact stage_go hcl hi hLm h3

theorem stage_done {f : Nat} {listed : Array Bool} {a : Act} {w : World} (hr : Region.ready .any ops listed = []) (h : Q .normal a w) : Rest P ops M J S Q f listed a w :=
  ⟨fun _ => match f with
    | 0 => ⟨hr, h⟩
    | _ + 1 => ⟨fun _ => h, by rw [hr]; simp⟩⟩

theorem heads_nil {L : Act → Prop} {a : Act} (h : L a) : wpHeads P ops S L [] a := h
theorem heads_load {L : Act → Prop} {a : Act} {o : Oper} {os : List Oper} (v : Value) (hw : Region.wanted o (yielded ops a.tmps) = true)
    (hy : ∀ w, S w → (execOp a.eval o).run P w = .ok (.value v) w) (hl : loadLike o.op = true) (h : wpHeads P ops S L os (a.put o.dst v)) : wpHeads P ops S L (o :: os) a := ⟨v, .inl ⟨hw, fun w hS => hy w (hS hl)⟩, h⟩
theorem heads_pure {L : Act → Prop} {a : Act} {o : Oper} {os : List Oper} (v : Value) (hw : Region.wanted o (yielded ops a.tmps) = true)
    (hy : ∀ w, (execOp a.eval o).run P w = .ok (.value v) w) (h : wpHeads P ops S L os (a.put o.dst v)) : wpHeads P ops S L (o :: os) a := ⟨v, .inl ⟨hw, fun w _ => hy w⟩, h⟩
theorem heads_skip {L : Act → Prop} {a : Act} {o : Oper} {os : List Oper} (hw : Region.wanted o (yielded ops a.tmps) = false)
    (h : wpHeads P ops S L os (a.put o.dst undef)) : wpHeads P ops S L (o :: os) a := ⟨undef, .inr ⟨hw, rfl⟩, h⟩
end plan
end Go.Proofs.Own

/- A call's own boxes, what stands beside them, and the steps of a walk over them; no conditions. -/
namespace Go.Proofs.Own
open Go Go.RowKit

/-- R stands, and goes on standing while blocks of S are changed (and new ones are made). -/
def Sf (S : Nat → Prop) (w : World) (R : World → Prop) : Prop := ∀ w', Kept w w' S → R w'
section
variable {S T : Nat → Prop} {w w' : World} {R Z : World → Prop}
theorem Sf.now (h : Sf S w R) : R w := h w (Kept.refl w S)
theorem Sf.to (h : Sf S w R) (k : Kept w w' S) : Sf S w' R := fun v kv => h v (k.trans kv)
theorem Sf.below (h : Sf S w R) (k : Below w.heap.size w w') : Sf S w' R := h.to (Kept.of_below k fun i h1 h2 => by omega)
theorem Sf.sub (h : Sf S w R) (hs : ∀ k, k < w.heap.size → T k → S k) : Sf T w R := fun v kv => h v (kv.mono hs)
theorem Sf.imp (h : Sf S w R) (hi : ∀ v, R v → Z v) : Sf S w Z := fun v kv => hi v (h v kv)
theorem Sf.and (h : Sf S w R) (g : Sf S w Z) : Sf S w (fun v => R v ∧ Z v) := fun v kv => ⟨h v kv, g v kv⟩
theorem Sf.all (S : Nat → Prop) (w : World) : Sf S w (fun _ => True) := fun _ _ => trivial
end

/-- Boxes: blocks, and their cells. -/
abbrev Bx := List (Nat × List Value)
def Box (w : World) (p : Nat × List Value) : Prop := p.1 < w.heap.size ∧ ∀ (j : Nat) v, p.2[j]? = some v → w.cell? ⟨p.1, j, none⟩ = some v ∧ w.frozen? ⟨p.1, j, none⟩ = false
theorem Box.lt {w : World} {p : Nat × List Value} (h : Box w p) : p.1 < w.heap.size := h.1
theorem Box.kept {w w' : World} {p : Nat × List Value} {S : Nat → Prop} (h : Box w p) (hk : Kept w w' S) (hs : ¬ S p.1) : Box w' p :=
  ⟨Nat.lt_of_lt_of_le h.1 hk.size, fun j v hj => ⟨hk.cell (h.2 j v hj).1 hs, (hk.frozen (a := ⟨p.1, j, none⟩) h.1 hs).trans (h.2 j v hj).2⟩⟩
theorem Box.new {w : World} {c : List Value} {t : TypeId} : Box (w.alloc (.cells c.toArray t)) (w.heap.size, c) := by
  refine ⟨by simp, fun j v hj => ⟨?_, ?_⟩⟩
  · rw [World.cell?_alloc_new]
    simpa using hj
  · show World.frozen? (w.alloc _) ⟨w.heap.size, j, none⟩ = false
    unfold World.frozen? World.alloc
    simp
theorem Box.set {w : World} {b : Nat} {c : List Value} (h : Box w (b, c)) (j : Nat) (v : Value) : Box (w.setCell ⟨b, j, none⟩ v) (b, c.set j v) := by
  refine ⟨by rw [World.size_setCell]; exact h.1, fun i u hi => ?_⟩
  rw [World.frozen?_setCell]
  simp only at hi ⊢
  rw [List.getElem?_set] at hi
  split at hi
  · rename_i e
    subst e
    split at hi
    · rename_i hl
      have h1 := h.2 j _ (List.getElem?_eq_getElem hl)
      exact ⟨(World.cell?_setCell_same _ _ _ h1.1).trans hi, h1.2⟩
    · cases hi
  · rename_i e
    exact ⟨(World.cell?_setCell_other _ _ _ _ (by simp)).trans (h.2 i u hi).1, (h.2 i u hi).2⟩
/-- The blocks that may be changed: S, and the boxes. -/
def ow (S : Nat → Prop) (l : List Nat) : Nat → Prop := fun k => S k ∨ k ∈ l

/-- The call began at w0; its boxes are L; R stands beside them, whatever is done to the boxes and to S. -/
structure Fr (S : Nat → Prop) (w0 w : World) (L : Bx) (R : World → Prop) : Prop where
  box : ∀ (i : Nat) p, L[i]? = some p → Box w p
  inj : ∀ (i j : Nat) p q, L[i]? = some p → L[j]? = some q → p.1 = q.1 → i = j
  rng : ∀ p ∈ L, w0.heap.size ≤ p.1 ∧ p.1 < w.heap.size
  bel : Below w0.heap.size w0 w
  saf : Sf (ow S (L.map (·.1))) w R
  lim : ∀ k, S k → k < w.heap.size
section
variable {S : Nat → Prop} {w0 w w' : World} {L : Bx} {R Z : World → Prop}
theorem Fr.zero (w : World) (hS : ∀ k, S k → k < w.heap.size) (h : Sf S w R) : Fr S w w [] R :=
  ⟨fun i p h => (by simp at h), fun i j p q h => (by simp at h), nofun, Below.refl _ _, h.sub fun k _ hk => hk.elim id fun h => (by cases h), hS⟩
theorem Fr.r (h : Fr S w0 w L R) : R w := h.saf.now
theorem Fr.get (h : Fr S w0 w L R) (hi : ∀ v, R v → Z v) : Sf (ow S (L.map (·.1))) w Z := h.saf.imp hi
theorem Fr.few (h : Fr S w0 w L R) : ∀ k, ow S (L.map (·.1)) k → k < w.heap.size := fun k hk => hk.elim (h.lim k) fun h1 => by
  obtain ⟨p, hp, rfl⟩ := List.mem_map.1 h1
  exact (h.rng p hp).2
/-- A call beside the frame. -/
theorem Fr.call (h : Fr S w0 w L R) (hb : Below w.heap.size w w') : Fr S w0 w' L R := by
  have hz : w0.heap.size ≤ w.heap.size := h.bel.size
  refine ⟨fun i p hp => ?_, h.inj, fun p hp => ⟨(h.rng p hp).1, Nat.lt_of_lt_of_le (h.rng p hp).2 hb.size⟩, h.bel.trans (hb.mono hz), h.saf.below hb, fun k hk => Nat.lt_of_lt_of_le (h.lim k hk) hb.size⟩
  exact (h.box i p hp).kept (Kept.of_below hb (S := fun _ => False) fun k h1 h2 => by omega) id
/-- .. that tells of something new. -/
theorem Fr.put (h : Fr S w0 w L R) (g : Sf (ow S (L.map (·.1))) w Z) : Fr S w0 w L (fun v => Z v ∧ R v) := ⟨h.box, h.inj, h.rng, h.bel, g.and h.saf, h.lim⟩
theorem Fr.imp (h : Fr S w0 w L R) (hi : ∀ v, R v → Z v) : Fr S w0 w L Z := ⟨h.box, h.inj, h.rng, h.bel, h.saf.imp hi, h.lim⟩
theorem Fr.drew (h : Fr S w0 w L R) (e : w.drew = w') : Fr S w0 w' L R := e ▸ h.call ((Below.refl _ _).drew)
theorem Fr.grow (h : Fr S w0 w L R) {o : Obj} (e : w.alloc o = w') : Fr S w0 w' L R := e ▸ h.call ((Below.refl _ _).alloc (Nat.le_refl _) _)
/-- A new box. -/
theorem Fr.snoc (h : Fr S w0 w L R) {b : Nat} {c : List Value} {t : TypeId} (hb : w.heap.size = b) (e : w.alloc (.cells c.toArray t) = w') : Fr S w0 w' (L ++ [(b, c)]) R := by
  subst hb
  have h1 := h.grow e
  have key : ∀ (i : Nat) p, (L ++ [(w.heap.size, c)])[i]? = some p → (L[i]? = some p ∧ p.1 < w.heap.size) ∨ (i = L.length ∧ p = (w.heap.size, c)) := by
    intro i p hp
    rw [List.getElem?_append] at hp
    split at hp
    · exact .inl ⟨hp, (h.rng p (List.mem_of_getElem? hp)).2⟩
    · rename_i hi
      rw [List.getElem?_singleton] at hp
      split at hp
      · exact .inr ⟨by omega, (Option.some.inj hp).symm⟩
      · cases hp
  refine ⟨fun i p hp => ?_, fun i j p q hp hq hpq => ?_, fun p hp => ?_, h1.bel, ?_, h1.lim⟩
  · rcases key i p hp with ⟨hp, _⟩ | ⟨_, rfl⟩
    · exact h1.box i p hp
    · exact e ▸ Box.new
  · rcases key i p hp with ⟨hp, lp⟩ | ⟨rfl, rfl⟩ <;> rcases key j q hq with ⟨hq, lq⟩ | ⟨rfl, rfl⟩
    · exact h.inj i j p q hp hq hpq
    · simp only at hpq; omega
    · simp only at hpq; omega
    · rfl
  · rcases List.mem_append.1 hp with hp | hp
    · exact h1.rng p hp
    · obtain rfl := List.mem_singleton.1 hp
      exact ⟨h.bel.size, by subst e; simp⟩
  · intro v kv
    have k1 : Kept w v (ow S (L.map (·.1))) := by
      subst e
      refine ((Kept.alloc w _ (fun k => ow S ((L ++ [(w.heap.size, c)]).map (·.1)) k)).trans kv).mono fun k hk hs => ?_
      rcases hs with hs | hs
      · exact .inl hs
      · rw [List.map_append] at hs
        rcases List.mem_append.1 hs with hs | hs
        · exact .inr hs
        · simp only [List.map_cons, List.map_nil, List.mem_singleton] at hs
          omega
    exact h.saf v k1
/-- A box is changed. -/
theorem Fr.turn (h : Fr S w0 w L R) (i : Nat) {b : Nat} {c d : List Value} (hi : L[i]? = some (b, c)) (hk : Kept w w' (fun k => k = b)) (hd : Box w' (b, d)) : Fr S w0 w' (L.set i (b, d)) R := by
  have hl : i < L.length := (List.getElem?_eq_some_iff.1 hi).1
  have key : ∀ (k : Nat) p, (L.set i (b, d))[k]? = some p → (k = i ∧ p = (b, d)) ∨ (k ≠ i ∧ L[k]? = some p) := by
    intro k p hp
    rw [List.getElem?_set] at hp
    split at hp
    · rename_i hk
      exact .inl ⟨hk.symm, (Option.some.inj hp).symm⟩
    · rename_i hk
      exact .inr ⟨fun h => hk h.symm, hp⟩
  have hfst : (L.set i (b, d)).map (·.1) = L.map (·.1) := by
    rw [List.map_set]
    refine List.ext_getElem? fun k => ?_
    rw [List.getElem?_set]
    split
    · rename_i hk
      subst hk
      rw [List.getElem?_map, hi]
      simp [hl]
    · rfl
  have hb : (b, c) ∈ L := List.mem_of_getElem? hi
  refine ⟨fun k p hp => ?_, fun k l p q hp hq hpq => ?_, fun p hp => ?_, hk.below (Nat.le_trans (h.rng _ hb).1 (Nat.le_of_lt (h.rng _ hb).2)) (fun k hk => hk ▸ (h.rng _ hb).1) |> h.bel.trans, ?_, fun k hs => Nat.lt_of_lt_of_le (h.lim k hs) hk.size⟩
  · rcases key k p hp with ⟨rfl, rfl⟩ | ⟨hne, hp⟩
    · exact hd
    · exact (h.box k p hp).kept hk fun he => hne (h.inj k i p _ hp hi he)
  · rcases key k p hp with ⟨rfl, rfl⟩ | ⟨_, hp'⟩ <;> rcases key l q hq with ⟨rfl, rfl⟩ | ⟨_, hq'⟩
    · rfl
    · exact h.inj _ l _ q hi hq' hpq
    · exact h.inj k _ p _ hp' hi hpq
    · exact h.inj k l p q hp' hq' hpq
  · obtain ⟨k, hk2⟩ := List.getElem?_of_mem hp
    rcases key k p hk2 with ⟨rfl, rfl⟩ | ⟨_, hp⟩
    · exact ⟨(h.rng _ hb).1, Nat.lt_of_lt_of_le (h.rng _ hb).2 hk.size⟩
    · exact ⟨(h.rng p (List.mem_of_getElem? hp)).1, Nat.lt_of_lt_of_le (h.rng p (List.mem_of_getElem? hp)).2 hk.size⟩
  · rw [hfst]
    exact h.saf.to (hk.mono fun k _ hk => .inr (hk ▸ List.mem_map.2 ⟨_, hb, rfl⟩))
/-- A store into a box. -/
theorem Fr.u (h : Fr S w0 w L R) (i : Nat) {b : Nat} {c : List Value} {j : Nat} {v : Value} (hi : L[i]? = some (b, c)) (e : w.setCell ⟨b, j, none⟩ v = w') : Fr S w0 w' (L.set i (b, c.set j v)) R :=
  h.turn i hi (e ▸ Kept.setCell w ⟨b, j, none⟩ v) (e ▸ (h.box _ _ hi).set j v)
/-- What a call is handed: it stands, also while blocks of S change, all of them old. -/
structure In (S : Nat → Prop) (w : World) (R : World → Prop) : Prop where
  lim : ∀ k, S k → k < w.heap.size
  saf : Sf S w R
theorem In.fr (h : In S w R) : Fr S w w [] R := Fr.zero w h.lim h.saf
theorem Fr.ins (h : Fr S w0 w L R) (hi : ∀ v, R v → Z v) : In (ow S (L.map (·.1))) w Z := ⟨h.few, h.get hi⟩
/-- A call beside the frame, that tells of something new. -/
theorem Fr.next (h : Fr S w0 w L R) (hb : Below w.heap.size w w') (g : Sf (ow S (L.map (·.1))) w' Z) : Fr S w0 w' L (fun v => Z v ∧ R v) := (h.call hb).put g
/-- What a call leaves of what stands. -/
theorem Fr.fin (h : Fr S w0 w L R) (hi : ∀ v, R v → Z v) : Sf S w Z := (h.saf.sub fun _ _ hk => .inl hk).imp hi
end

-- ALL CELLS, ONE BY ONE
def CellsF (w : World) (b : Nat) : Nat → List Value → Prop
  | _, [] => True
  | j, v :: r => w.cell? ⟨b, j, none⟩ = some v ∧ w.frozen? ⟨b, j, none⟩ = false ∧ CellsF w b (j + 1) r
def FactsF (w : World) : Bx → Prop
  | [] => True
  | p :: r => p.1 < w.heap.size ∧ CellsF w p.1 0 p.2 ∧ FactsF w r
theorem cellsF_of {w : World} {b : Nat} : ∀ (r : List Value) (j : Nat), (∀ (i : Nat) v, r[i]? = some v → w.cell? ⟨b, j + i, none⟩ = some v ∧ w.frozen? ⟨b, j + i, none⟩ = false) → CellsF w b j r
  | [], _, _ => trivial
  | v :: r, j, hr => by
    have h0 := hr 0 v rfl
    refine ⟨h0.1, h0.2, cellsF_of r (j + 1) fun i u hu => ?_⟩
    have := hr (i + 1) u (by simpa using hu)
    rwa [show j + (i + 1) = j + 1 + i by omega] at this
theorem factsF_of {w : World} : ∀ {L : Bx}, (∀ p ∈ L, Box w p) → FactsF w L
  | [], _ => trivial
  | p :: r, h => ⟨(h p List.mem_cons_self).1, cellsF_of p.2 0 fun i v hv => by rw [Nat.zero_add]; exact (h p List.mem_cons_self).2 i v hv, factsF_of fun q hq => h q (List.mem_cons_of_mem _ hq)⟩
theorem Fr.facts {S : Nat → Prop} {w0 w : World} {L : Bx} {R : World → Prop} (h : Fr S w0 w L R) : FactsF w L := factsF_of fun p hp => let ⟨i, hi⟩ := List.getElem?_of_mem hp; h.box i p hi
theorem fO {w : World} : FactsF w [] = True ∧ (∀ b c r, FactsF w ((b, c) :: r) = (b < w.heap.size ∧ CellsF w b 0 c ∧ FactsF w r)) ∧ (∀ b j, CellsF w b j [] = True) ∧ (∀ b j v r, CellsF w b j (v :: r) = (w.cell? ⟨b, j, none⟩ = some v ∧ w.frozen? ⟨b, j, none⟩ = false ∧ CellsF w b (j + 1) r)) :=
  ⟨rfl, fun _ _ _ => rfl, fun _ _ => rfl, fun _ _ _ _ => rfl⟩
theorem fS {α : Type} : (∀ (a b : α) l, (a :: l).set 0 b = b :: l) ∧ (∀ (a b : α) l i, (a :: l).set (i + 1) b = a :: l.set i b) ∧ (∀ l : List α, [] ++ l = l) ∧ ∀ (a : α) l m, (a :: l) ++ m = a :: (l ++ m) := ⟨fun _ _ _ => rfl, fun _ _ _ _ => rfl, fun _ => rfl, fun _ _ _ => rfl⟩

-- A REGION THAT DRAWS ITS ORDER, ITS WHOLE PLAN AT ONCE
/-- A stage: heads, or one operation. -/
inductive Stg where
  | h (H : List Nat)
  | o (j : Nat)
def planB (l : List Oper) (M : List Nat) (J : Nat) : List Stg → Array Bool → Bool
  | [], L => (Region.ready .any l.toArray L).isEmpty
  | .h H :: r, L => stageB l.toArray M J L H && planB l M J r (H.foldl (fun b i => b.setIfInBounds i true) L)
  | .o j :: r, L => (Region.ready .any l.toArray L == [j]) && planB l M J r (L.setIfInBounds j true)
def planN : List Stg → Nat
  | [] => 0
  | .h H :: r => planN r + H.length
  | .o _ :: r => planN r + 1
def planPost (J : Nat) (S : World → Prop) (Q : Exit → Act → World → Prop) (j : Nat) (K : Act → World → Prop) : Exit → Act → World → Prop
  | .normal, a, w => (J.testBit j = true → S w) ∧ K a w
  | e, a, w => Q e a w
def wpPlan (P : Program) (l : List Oper) (J : Nat) (S : World → Prop) (Q : Exit → Act → World → Prop) : List Stg → Act → World → Prop
  | [], a, w => Q .normal a w
  | .h H :: r, a, w => ((H.all fun i => match l.toArray[i]? with | some o => !needy J i o | none => true) = true ∨ S w) ∧ wpHeads P l.toArray S (fun A => wpPlan P l J S Q r A w) (H.flatMap fun i => (l.drop i).take 1) a
  | .o j :: r, a, w => wpList P l.toArray (planPost J S Q j (wpPlan P l J S Q r)) ((l.drop j).take 1) a w
section
variable {P : Program} {l : List Oper} {J : Nat} {S : World → Prop} {Q : Exit → Act → World → Prop} {M : List Nat} {a : Act} {w : World}
theorem plan_post {j : Nat} {K : Act → World → Prop} (hS : J.testBit j = true → S w) (h : K a w) : planPost J S Q j K .normal a w := ⟨hS, h⟩
theorem plan_h {H : List Nat} {r : List Stg} (h1 : (H.all fun i => match l.toArray[i]? with | some o => !needy J i o | none => true) = true ∨ S w)
    (h : wpHeads P l.toArray S (fun A => wpPlan P l J S Q r A w) (H.flatMap fun i => (l.drop i).take 1) a) : wpPlan P l J S Q (.h H :: r) a w := ⟨h1, h⟩
theorem plan_o {j : Nat} {r : List Stg} (h : wpList P l.toArray (planPost J S Q j (wpPlan P l J S Q r)) ((l.drop j).take 1) a w) : wpPlan P l J S Q (.o j :: r) a w := h
theorem Oper.wp_monoQ {o : Oper} {Q Q' : Exit → Act → World → Prop} {K K' : Act → World → Prop} (h : ∀ a w, K a w → K' a w) (hp : ∀ c a w, Q (.panic c) a w → Q' (.panic c) a w) (hl : LetsOut Q → LetsOut Q') (hh : o.wp P a w K Q) : o.wp P a w K' Q' := by
  unfold Oper.wp at *
  generalize (execOp a.eval o).run P w = r at *
  cases r with
  | ok n w' =>
    cases n <;> simp only [Oper.upon] at hh ⊢ <;>
      first
        | exact h _ _ hh
        | exact Calls.mono hh (fun e w'' he => by cases e <;> first | exact h _ _ he | exact hp _ _ _ he | exact hl he)
        | exact Rows.mono hh (fun _ _ he => h _ _ he)
  | halt x w' => cases x <;> simp only [Oper.upon] at hh ⊢ <;> exact hp _ _ _ hh
theorem plan_nil (h : Q .normal a w) : wpPlan P l J S Q [] a w := h
theorem rest_of_plan (h0 : (Region.noSelect l.toArray && maskOk l.toArray M) = true) (hQ : ∀ c (a : Act) t w, Q (.panic c) { a with tmps := t } w → Q (.panic c) a w) (hSa : ∀ w o, S w → S (w.alloc o)) :
    ∀ (st : List Stg) (L : Array Bool) (a : Act) (w : World), planB l M J st L = true → wpPlan P l J S Q st a w → Rest P l.toArray M J S Q (planN st) L a w
  | [], L, a, w, hB, h => stage_done (by simpa [planB] using hB) h
  | .h H :: r, L, a, w, hB, h => by
    simp only [planB, Bool.and_eq_true] at hB h0
    refine stage_heads H (by simp only [Bool.and_eq_true]; exact ⟨h0, hB.1⟩) rfl rfl hQ hSa h.1 ?_
    have : (fun A => wpPlan P l J S Q r A w) = (fun A => wpPlan P l J S Q r A w) := rfl
    have key : ∀ (os : List Oper) (K K' : Act → Prop), (∀ A, K A → K' A) → ∀ a, wpHeads P l.toArray S K os a → wpHeads P l.toArray S K' os a := by
      intro os K K' hK
      induction os with
      | nil => intro a h; exact hK a h
      | cons o os ih => intro a h; obtain ⟨v, h1, h2⟩ := h; exact ⟨v, h1, ih _ h2⟩
    exact key _ _ _ (fun A hA => rest_of_plan (by simp only [Bool.and_eq_true]; exact h0) hQ hSa r _ A w hB.2 hA) a h.2
  | .o j :: r, L, a, w, hB, h => by
    simp only [planB, Bool.and_eq_true, beq_iff_eq] at hB
    refine stage_op j hB.1 rfl ?_
    have hm : ∀ e a' w', planPost J S Q j (wpPlan P l J S Q r) e a' w' → stepPost P l.toArray M J S Q (planN r) (L.setIfInBounds j true) j e a' w' := by
      intro e a' w' h
      cases e
      case normal => exact ⟨h.1, rest_of_plan h0 hQ hSa r _ a' w' hB.2 h.2⟩
      all_goals exact h
    obtain ⟨o, _, hp⟩ := pick_one (l := l) (i := j) (listed := L) (by rw [hB.1]; exact List.mem_singleton.2 rfl)
    unfold wpPlan at h
    rw [hp] at h ⊢
    unfold wpList at h ⊢
    split
    · rename_i hw
      rw [if_pos hw] at h
      have hl : LetsOut (planPost J S Q j (wpPlan P l J S Q r)) → LetsOut (stepPost P l.toArray M J S Q (planN r) (L.setIfInBounds j true) j) := fun ⟨a', w', h⟩ => ⟨a', w', hm _ _ _ h⟩
      exact h.imp (Oper.wp_monoQ (fun a' w' h2 => hm .normal a' w' h2) (fun c a' w' h2 => hm (.panic c) a' w' h2) hl) fun h1 => ⟨h1.1, hl h1.2⟩
    · rename_i hw
      rw [if_neg hw] at h
      exact hm .normal _ _ h
/-- A REGION BY ITS PLAN. -/
theorem region_plan {id : Nat} (M : List Nat) (J : Nat) (st : List Stg) (S : World → Prop) (hm : P.follows .mixedOrders = true) (h0 : (Region.noSelect l.toArray && maskOk l.toArray M && planB l M J st (Array.replicate l.length false) && decide (planN st = l.length)) = true)
    (hQ : ∀ c (a : Act) t w, Q (.panic c) { a with tmps := t } w → Q (.panic c) a w) (hSa : ∀ w o, S w → S (w.alloc o)) (h : wpPlan P l J S Q st a w.drew) : (Code.region id l.toArray true).wp P Q a w := by
  simp only [Bool.and_eq_true, decide_eq_true_eq] at h0
  refine region_start M J S hm ?_
  have := rest_of_plan (by simp only [Bool.and_eq_true]; exact h0.1.1) hQ hSa st _ a w.drew h0.1.2 h
  rwa [h0.2] at this
end
-- A REGION BESIDE A FRAME
/-- The boxes that no operation of the region stores to. -/
def msk : List Bool → Bx → Bx
  | _, [] => []
  | [], p :: L => p :: msk [] L
  | true :: m, _ :: L => msk m L
  | false :: m, p :: L => p :: msk m L
theorem mK : (∀ m, msk m [] = []) ∧ (∀ p L, msk [] (p :: L) = p :: msk [] L) ∧ (∀ m p L, msk (true :: m) (p :: L) = msk m L) ∧ (∀ m p L, msk (false :: m) (p :: L) = p :: msk m L) := ⟨fun m => by cases m <;> rfl, fun _ _ => rfl, fun _ _ _ => rfl, fun _ _ _ => rfl⟩
theorem msk_mem : ∀ (m : List Bool) (L : Bx), ∀ p ∈ msk m L, p ∈ L
  | [], [], p, h => by simp [msk] at h
  | _ :: _, [], p, h => by simp [msk] at h
  | [], q :: L, p, h => by
    rcases List.mem_cons.1 h with rfl | h
    · exact List.mem_cons_self
    · exact List.mem_cons_of_mem _ (msk_mem [] L p h)
  | true :: m, q :: L, p, h => List.mem_cons_of_mem _ (msk_mem m L p h)
  | false :: m, q :: L, p, h => by
    rcases List.mem_cons.1 h with rfl | h
    · exact List.mem_cons_self
    · exact List.mem_cons_of_mem _ (msk_mem m L p h)
structure Rg (S : Nat → Prop) (m : List Bool) (L : Bx) (R : World → Prop) (w : World) : Prop where
  box : ∀ p ∈ msk m L, Box w p
  saf : Sf (ow S (L.map (·.1))) w R
theorem Fr.rg {S : Nat → Prop} {w0 w : World} {L L' : Bx} {R : World → Prop} {m : List Bool} (h : Fr S w0 w L' R) (h1 : msk m L' = msk m L := by rfl) (h2 : L'.map (·.1) = L.map (·.1) := by rfl) : Rg S m L R w :=
  ⟨fun p hp => by
    rw [← h1] at hp
    obtain ⟨i, hi⟩ := List.getElem?_of_mem (msk_mem m L' p hp)
    exact h.box i p hi, by rw [← h2]; exact h.saf⟩
/-- What is told of a region: its masks, the operations behind which all is shown anew, its stages, the boxes that it stores to. -/
structure Pm (M : List Nat) (J : Nat) (st : List Stg) (m : List Bool) : Prop where
theorem region_fr {P : Program} {l : List Oper} {J : Nat} {Q : Exit → Act → World → Prop} {M : List Nat} {a : Act} {id : Nat} {st : List Stg} {m : List Bool} {S : Nat → Prop} {w0 w : World} {L : Bx} {R : World → Prop} (F : Fr S w0 w L R) (_ : Pm M J st m)
    (hm : P.follows .mixedOrders = true) (h0 : (Region.noSelect l.toArray && maskOk l.toArray M && planB l M J st (Array.replicate l.length false) && decide (planN st = l.length)) = true)
    (hQ : ∀ c (a : Act) t w, Q (.panic c) { a with tmps := t } w → Q (.panic c) a w) (h : ∀ v, Fr S w0 v L R → wpPlan P l J (Rg S m L R) Q st a v) : (Code.region id l.toArray true).wp P Q a w :=
  region_plan M J st (Rg S m L R) hm h0 hQ (fun v o hv => ⟨fun p hp => (hv.box p hp).kept (Kept.alloc v o (fun _ => False)) (fun h => h), hv.saf.below ((Below.refl _ _).alloc (Nat.le_refl _) o)⟩) (h _ (F.drew rfl))
theorem Fr.region {P : Program} {l : List Oper} {J : Nat} {Q : Exit → Act → World → Prop} {M : List Nat} {a : Act} {id : Nat} {st : List Stg} {m : List Bool} {S : Nat → Prop} {w0 w : World} {L : Bx} {R : World → Prop} (F : Fr S w0 w L R) (x : Pm M J st m)
    (hm : P.follows .mixedOrders = true) (h0 : (Region.noSelect l.toArray && maskOk l.toArray M && planB l M J st (Array.replicate l.length false) && decide (planN st = l.length)) = true)
    (hQ : ∀ c (a : Act) t w, Q (.panic c) { a with tmps := t } w → Q (.panic c) a w) (h : ∀ v, Fr S w0 v L R → wpPlan P l J (Rg S m L R) Q st a v) : (Code.region id l.toArray true).wp P Q a w := region_fr F x hm h0 hQ h
theorem sX {α β : Type} : (∀ f : α → List β, List.flatMap f [] = []) ∧ ∀ (x : α) (xs : List α) (f : α → List β), List.flatMap f (x :: xs) = f x ++ List.flatMap f xs := ⟨fun _ => rfl, fun _ _ _ => rfl⟩
theorem sY {β : Type} : (∀ (a : β) (l : List β) (i : Nat), (a :: l).drop (i + 1) = l.drop i) ∧ (∀ l : List β, l.drop 0 = l) ∧ (∀ (i : Nat) (a : β) (l : List β), (a :: l).take (i + 1) = a :: l.take i) ∧ (∀ l : List β, l.take 0 = []) ∧ (∀ (a : β) (l s : List β), (a :: l) ++ s = a :: (l ++ s)) ∧ (∀ l : List β, [] ++ l = l) ∧ ∀ l : List β, l ++ [] = l := ⟨fun _ _ _ => rfl, fun _ => rfl, fun _ _ _ => rfl, fun _ => rfl, fun _ _ _ => rfl, fun _ => rfl, List.append_nil⟩
theorem sZ {α : Type} : (∀ (l : List α) (i : Nat) (a : α), l.toArray.setIfInBounds i a = (l.set i a).toArray) ∧ (∀ (a b : α) (l : List α), (a :: l).set 0 b = b :: l) ∧ ∀ (a b : α) (l : List α) (i : Nat), (a :: l).set (i + 1) b = a :: l.set i b := ⟨fun l i a => List.setIfInBounds_toArray l i a, fun _ _ _ => rfl, fun _ _ _ _ => rfl⟩
end Go.Proofs.Own

/- Steps of a walk over a frame F at the world w, each by one word; no conditions. -/
namespace Go.Proofs.Own
open Go Go.RowKit

theorem sz_set {w v : World} {a : Addr} {x : Value} {n : Nat} (e : w.setCell a x = v) (h : w.heap.size = n) : v.heap.size = n := by subst e; rw [World.size_setCell]; exact h
theorem sz_alloc {w v : World} {o : Obj} {n : Nat} (e : w.alloc o = v) (h : w.heap.size = n) : v.heap.size = n + 1 := by subst e; rw [World.size_alloc, h]
theorem sz_drew {w v : World} {n : Nat} (e : w.drew = v) (h : w.heap.size = n) : v.heap.size = n := e ▸ h
-- one step of the world, marked
def setQ (w : World) (a : Addr) (x : Value) : World := w.setCell a x
def allocQ (w : World) (o : Obj) : World := w.alloc o
def drewQ (w : World) : World := w.drew
theorem setQ_eq (w : World) (a : Addr) (x : Value) : w.setCell a x = setQ w a x := rfl
theorem allocQ_eq (w : World) (o : Obj) : w.alloc o = allocQ w o := rfl
theorem drewQ_eq (w : World) : w.drew = drewQ w := rfl
/-- All cells of the boxes, and what stands beside them. -/
theorem fx {p q : Prop} (k : q → p) (h : q := by have C := And.intro F.facts F.r; simp only [fS, fO, Nat.zero_add, Nat.reduceAdd, and_true, true_and] at C; exact C) : p := k h
/-- Behind stores and new boxes (one at least): F and its cells anew, at a new letter w. -/
theorem stq {p q : Prop} (k : q) (h : q → p := by
    intro k
    have E := Eq.refl w.heap.size
    (first
      | (rw [setQ_eq w]
         generalize hW : setQ w _ _ = w
         first | replace F := F.u 0 rfl hW | replace F := F.u 1 rfl hW | replace F := F.u 2 rfl hW | replace F := F.u 3 rfl hW | replace F := F.u 4 rfl hW | replace F := F.u 5 rfl hW | replace F := F.u 6 rfl hW
         try dsimp only [List.set_cons_zero, List.set_cons_succ] at F
         replace E := sz_set hW E
         clear hW)
      | (rw [allocQ_eq w]
         generalize hW : allocQ w _ = w
         first | replace F := F.snoc E hW | replace F := F.grow hW
         replace E := sz_alloc hW E
         clear hW)
      | (rw [drewQ_eq w]
         generalize hW : drewQ w = w
         replace F := F.drew hW
         replace E := sz_drew hW E
         clear hW))
    repeat (first
      | (rw [setQ_eq w]
         generalize hW : setQ w _ _ = w
         first | replace F := F.u 0 rfl hW | replace F := F.u 1 rfl hW | replace F := F.u 2 rfl hW | replace F := F.u 3 rfl hW | replace F := F.u 4 rfl hW | replace F := F.u 5 rfl hW | replace F := F.u 6 rfl hW
         try dsimp only [List.set_cons_zero, List.set_cons_succ] at F
         replace E := sz_set hW E
         clear hW)
      | (rw [allocQ_eq w]
         generalize hW : allocQ w _ = w
         first | replace F := F.snoc E hW | replace F := F.grow hW
         replace E := sz_alloc hW E
         clear hW)
      | (rw [drewQ_eq w]
         generalize hW : drewQ w = w
         replace F := F.drew hW
         replace E := sz_drew hW E
         clear hW))
    clear E
    try simp only [fS] at F
    have C := And.intro F.facts F.r
    simp only [fS, fO, Nat.zero_add, Nat.reduceAdd, and_true, true_and] at C
    revert C
    revert F
    revert w
    exact k) : p := h k
/-- The end of a call whose results lie in boxes, and the walk to it; all that it tells stands (HV: what it is, if that wants to be told). hr: the function's results. -/
theorem ed {p : Prop} {α : Type} {f g : α} (hr : f = g) (h : f = g → p := by
    intro hr
    have C := And.intro F.facts F.r
    simp only [fS, fO, Nat.zero_add, Nat.reduceAdd, and_true, true_and] at C
    go_wp2_with (refine stq ?_; clear C; intro w F C)
    refine bodyPost_ret (by simp only [results, hr]; go_simp; rfl) rfl ?_
    clear C
    try rw [HV.out]
    first | exact ⟨_, _, rfl, F.fin (fun _ h => h), F.bel⟩ | exact ⟨_, _, rfl, F.fin (fun _ h => h.1), F.bel⟩ | exact ⟨_, _, rfl, F.fin (fun _ h => h.2), F.bel⟩ | exact ⟨rfl, F.fin (fun _ h => h), F.bel⟩ | exact ⟨rfl, F.fin (fun _ h => h.1), F.bel⟩ | exact ⟨rfl, F.bel⟩) : p := h hr
/-- .. told by hand. -/
theorem rt {p q : Prop} {α : Type} {f g : α} (hr : f = g) (k : q) (h : f = g → q → p := by
    intro hr k
    have C := And.intro F.facts F.r
    simp only [fS, fO, Nat.zero_add, Nat.reduceAdd, and_true, true_and] at C
    refine bodyPost_ret (by simp only [results, hr]; go_simp; rfl) rfl ?_
    clear C
    exact k) : p := h hr k
/-- A region that draws its order: begun, and walked up to its end or to a call. x: what plan2.py tells of it. -/
theorem rg {p q : Prop} {M : List Nat} {J : Nat} {st : List Stg} {m : List Bool} (x : Pm M J st m) (k : q) (h : Pm M J st m → q → p := by
    intro x k
    refine F.region x (by kernel_rfl) (by kernel_rfl) (fun _ _ _ _ h => h) ?_
    intro w F
    repeat (first
      | (rw [setQ_eq w]
         generalize hW : setQ w _ _ = w
         first | replace F := F.u 0 rfl hW | replace F := F.u 1 rfl hW | replace F := F.u 2 rfl hW | replace F := F.u 3 rfl hW | replace F := F.u 4 rfl hW | replace F := F.u 5 rfl hW | replace F := F.u 6 rfl hW
         try dsimp only [List.set_cons_zero, List.set_cons_succ] at F
         clear hW)
      | (rw [drewQ_eq w]
         generalize hW : drewQ w = w
         replace F := F.drew hW
         clear hW)
      | (refine heads_load _ (by rfl) (fun w' hs => by have C := factsF_of hs.box; have D := hs.saf.now; simp only [mK, fO, Nat.zero_add, Nat.reduceAdd, and_true] at C; go_simp; try with_reducible rfl) rfl ?_
         simp only [Act.put, sZ])
      | (refine heads_pure _ (by rfl) (fun w' => by go_simp; try with_reducible rfl) ?_
         simp only [Act.put, sZ])
      | (refine heads_skip (by rfl) ?_
         simp only [Act.put, sZ])
      | refine heads_nil ?_
      | (refine plan_h (.inr F.rg) ?_
         simp only [sX, sY])
      | (refine plan_h (.inl (by decide +kernel)) ?_
         simp only [sX, sY])
      | (with_reducible refine plan_post ?_ ?_
         · first | (intro h; exact absurd h (by decide)) | (intro _; exact F.rg))
      | (refine plan_o ?_
         simp only [sX, sY]
         have C := F.facts
         simp only [fS, fO, Nat.zero_add, Nat.reduceAdd, and_true, true_and] at C
         go_wp2_with fail
         clear C
         repeat (rw [setQ_eq w]
                 generalize hW : setQ w _ _ = w
                 first | replace F := F.u 0 rfl hW | replace F := F.u 1 rfl hW | replace F := F.u 2 rfl hW | replace F := F.u 3 rfl hW | replace F := F.u 4 rfl hW | replace F := F.u 5 rfl hW | replace F := F.u 6 rfl hW
                 clear hW)
         refine plan_post (by first | (intro h; exact absurd h (by decide)) | (intro _; exact F.rg)) ?_)
      | refine plan_nil ?_)
    try (refine plan_o ?_; simp only [sX, sY])
    try simp only [fS] at F
    have C := And.intro F.facts F.r
    simp only [fS, fO, Nat.zero_add, Nat.reduceAdd, and_true, true_and] at C
    revert C
    revert F
    revert w
    exact k) : p := h x k
/-- .. behind a call in it (ahead of it: 'revert w', so that F goes too). -/
theorem rc {p q : Prop} (k : q) (h : q → p := by
    intro k w F
    repeat (first
      | (rw [setQ_eq w]
         generalize hW : setQ w _ _ = w
         first | replace F := F.u 0 rfl hW | replace F := F.u 1 rfl hW | replace F := F.u 2 rfl hW | replace F := F.u 3 rfl hW | replace F := F.u 4 rfl hW | replace F := F.u 5 rfl hW | replace F := F.u 6 rfl hW
         try dsimp only [List.set_cons_zero, List.set_cons_succ] at F
         clear hW)
      | (rw [drewQ_eq w]
         generalize hW : drewQ w = w
         replace F := F.drew hW
         clear hW)
      | (refine heads_load _ (by rfl) (fun w' hs => by have C := factsF_of hs.box; have D := hs.saf.now; simp only [mK, fO, Nat.zero_add, Nat.reduceAdd, and_true] at C; go_simp; try with_reducible rfl) rfl ?_
         simp only [Act.put, sZ])
      | (refine heads_pure _ (by rfl) (fun w' => by go_simp; try with_reducible rfl) ?_
         simp only [Act.put, sZ])
      | (refine heads_skip (by rfl) ?_
         simp only [Act.put, sZ])
      | refine heads_nil ?_
      | (refine plan_h (.inr F.rg) ?_
         simp only [sX, sY])
      | (refine plan_h (.inl (by decide +kernel)) ?_
         simp only [sX, sY])
      | (with_reducible refine plan_post ?_ ?_
         · first | (intro h; exact absurd h (by decide)) | (intro _; exact F.rg))
      | (refine plan_o ?_
         simp only [sX, sY]
         have C := F.facts
         simp only [fS, fO, Nat.zero_add, Nat.reduceAdd, and_true, true_and] at C
         go_wp2_with fail
         clear C
         repeat (rw [setQ_eq w]
                 generalize hW : setQ w _ _ = w
                 first | replace F := F.u 0 rfl hW | replace F := F.u 1 rfl hW | replace F := F.u 2 rfl hW | replace F := F.u 3 rfl hW | replace F := F.u 4 rfl hW | replace F := F.u 5 rfl hW | replace F := F.u 6 rfl hW
                 clear hW)
         refine plan_post (by first | (intro h; exact absurd h (by decide)) | (intro _; exact F.rg)) ?_)
      | refine plan_nil ?_)
    try (refine plan_o ?_; simp only [sX, sY])
    try simp only [fS] at F
    have C := And.intro F.facts F.r
    simp only [fS, fO, Nat.zero_add, Nat.reduceAdd, and_true, true_and] at C
    revert C
    revert F
    revert w
    exact k) : p := h k
end Go.Proofs.Own

/- A box copied whole into another one, and loaded whole, beside a frame; over any program; no conditions. -/
namespace Go.Proofs.Own
open Go Go.RowKit

def setL : List Value → Nat → List Value → List Value
  | c, _, [] => c
  | c, o, v :: r => setL (c.set o v) (o + 1) r
theorem setL_eq : ∀ (vs c : List Value) (o : Nat), o + vs.length = c.length → setL c o vs = c.take o ++ vs
  | [], c, o, h => by rw [setL, List.append_nil, List.take_of_length_le (by simp at h; omega)]
  | v :: r, c, o, h => by
    have hl : o < c.length := by simp at h; omega
    rw [setL, setL_eq r (c.set o v) (o + 1) (by rw [List.length_set]; simp at h; omega), List.take_add_one, List.take_set_of_le (Nat.le_refl o), List.getElem?_set_self hl]
    simp
theorem Box.setL {b : Nat} : ∀ (vs c : List Value) (o : Nat) (w : World), Box w (b, c) → Box (w.setCells b o vs) (b, Own.setL c o vs)
  | [], _, _, _, h => h
  | v :: r, c, o, w, h => by
    rw [World.setCells, Own.setL]
    exact Box.setL r _ (o + 1) _ (h.set o v)
theorem Kept.setCells (b : Nat) : ∀ (vs : List Value) (o : Nat) (w : World), Kept w (w.setCells b o vs) (fun i => i = b)
  | [], _, w => Kept.refl w _
  | v :: r, o, w => by
    rw [World.setCells]
    exact (Kept.setCell w ⟨b, o, none⟩ v).trans (Kept.setCells b r (o + 1) _)
theorem Fr.cp {P : Program} {S : Nat → Prop} {w0 w : World} {L : Bx} {R : World → Prop} (F : Fr S w0 w L R) (i : Nat) {b : Nat} {c c' : List Value} (hi : L[i]? = some (b, c)) (hl : c'.length = c.length) (h1 : c'.all (·.oneCell') = true) :
    ∃ w2, (storeCells ⟨b, 0, none⟩ c' 0).run P w = .ok () w2 ∧ Fr S w0 w2 (L.set i (b, c')) R := by
  have B := F.box i _ hi
  refine ⟨w.setCells b 0 c', ?_, F.turn i hi (Kept.setCells b c' 0 w) ?_⟩
  · have q := run_storeCells_cells (P := P) b 0 c' 0 w (fun j hj => by
      have z := (B.2 j _ (List.getElem?_eq_getElem (by simp only; omega))).1
      simp only [Nat.zero_add] at z ⊢
      rw [z]
      rfl) (fun j hj => by simpa using (B.2 j _ (List.getElem?_eq_getElem (by simp only; omega))).2) (fun v hv => List.all_eq_true.1 h1 v hv)
    simpa using q
  · have q := Box.setL c' c 0 w B
    rwa [setL_eq c' c 0 (by omega), List.take_zero, List.nil_append] at q
end Go.Proofs.Own

/- From a law's contract to its row's statement, whatever the parameters: over any program; no conditions. -/
namespace Go.Proofs.Own
open Go Go.ChangeShapes Go.WideShapes Go.ChangeAt Go.RowKit Go.Deep

section
variable {H : Type} {enc : TypeId × Value → H} {P : Program}

/-- What the arguments read as, they read as behind a call that only makes memory. -/
theorem trodAll_below (hl : laidOutB P = true) {W W' : World} (hb : Below W.heap.size W W') : ∀ (ts : List TypeId) (vs : List Value) (ds : List (DataW H)) (ps : List MemPlace),
    (ts.all fun t => P.readableRec t && decide (t < P.types.size)) = true → DataW.TrodAll enc P W 0 (fun _ => true) true ts vs ds ps → (∀ x ∈ ps, x.block < W.heap.size) →
    DataW.TrodAll enc P W' 0 (fun b => decide (b < W.heap.size)) true ts vs ds ps
  | [], vs, ds, ps, _, h, _ => by
    obtain ⟨rfl, rfl, rfl⟩ := trodAll_nil h
    exact trodAll_mk0
  | t :: ts, vs, ds, ps, hr, h, hlt => by
    simp only [List.all_cons, Bool.and_eq_true, decide_eq_true_eq] at hr
    obtain ⟨⟨h1, h2⟩, h3⟩ := hr
    obtain ⟨v, vs', d, ds', p, q, rfl, rfl, rfl, h4, h5⟩ := trodAll_cons h
    exact trodAll_cons_mk (Below.trod hl h1 h2 h4 hb fun x hx => hlt x (List.mem_append_left _ hx)) (trodAll_below hl hb ts vs' ds' q (by simpa using h3) h5 fun x hx => hlt x (List.mem_append_right _ hx))

/-- A LAW's POST, from 'it returned true and only made memory'. -/
theorem law_post {f : Func} {s : ChangeSpec} (hl : laidOutB P = true) (hr : (f.params.toList.all fun t => P.readableRec t && decide (t < P.types.size)) = true) (hrt : ∃ tb, f.resultTypes = #[tb] ∧ P.underlying tb = some .bool) (hvars : s.vars = [])
    (hs : ∀ ds : List (DataW H), ds.length = f.params.size → s.fn H ds = { results := [.lit (.bool true)], args := ds, vars := [] }) {W W' : World} {args : Array Value} {ds gs : List (DataW H)} {before : List MemPlace}
    (hW : DataW.Whole enc P f.params.toList s.vars false W args.toList ds gs before) (hb : Below W.heap.size W W') : s.post enc P f false true false false W args (.bool true) W' := by
  have hW' := hW
  have hlt : ∀ p ∈ before, p.block < W.heap.size := fun p hp => hW.lt p hp
  obtain ⟨p, q, hA, hV, hbe, hfz, _⟩ := hW
  rw [hvars] at hV
  obtain ⟨rfl, rfl⟩ := trodVars_none hV
  have hlen : ∀ (ts : List TypeId) (vs : List Value) (ds : List (DataW H)) (ps : List MemPlace), DataW.TrodAll enc P W 0 (fun _ => true) true ts vs ds ps → ds.length = ts.length := by
    intro ts
    induction ts with
    | nil => intro vs ds ps h; obtain ⟨_, rfl, _⟩ := trodAll_nil h; rfl
    | cons t ts ih => intro vs ds ps h; obtain ⟨_, vs', _, ds', _, q', _, rfl, _, _, h5⟩ := trodAll_cons h; simp [ih vs' ds' q' h5]
  have hfn := hs ds (by rw [hlen _ _ _ _ hA]; simp)
  obtain ⟨tb, hrt, hub⟩ := hrt
  refine ⟨ds, [], before, [], p, [], hW', ?_, ?_, ?_, hb.frame _, fun h => by cases h⟩
  · rw [List.append_nil, hfn, hrt]
    exact trodAll_cons_mk (shut_bool hub true) trodAll_mk0
  · rw [List.append_nil, hfn]
    exact trodAll_below hl hb _ _ _ _ hr hA fun x hx => hlt x (by rw [hbe]; exact List.mem_append_left _ hx)
  · rw [List.append_nil, hfn, hvars]
    rfl
end

section
variable {H : Type} {enc : TypeId × Value → H} {P : Program} {w : World} {base : Nat} {spare : Nat → Bool} {held : Bool}
theorem open_slice_fields {t e : TypeId} {fs : Array Field} {fuel : Nat} {cs : List Value} {x : DataW H × List MemPlace} (ht : P.underlying t = some (.slice e)) (he : P.underlying e = some (.struct fs))
    (hone : oneCellFields P fs = true) (hC : P.cellsOf e = fs.size) (h : DataW.trod enc P w base spare held fuel t cs = some x) :
    (cs = [.slice none 0 0] ∧ x = (.nil, [])) ∨
    ∃ (a : Addr) (len cap m : Nat) (D : Nat → DataW H) (Pl : Nat → List MemPlace), cs = [.slice (some a) len cap] ∧ base ≤ a.block ∧ len ≤ cap ∧ cap ≤ maxLen ∧ m = (if spare a.block then cap else len) ∧
      x = (.slice ((List.range len).map D) ((List.range (m - len)).map fun j => D (len + j)), MemPlace.row a (m * fs.size) ++ (List.range m).flatMap Pl) ∧
      ∀ i, i < m → ∃ (ys : List (DataW H × List MemPlace)) (n : Nat), D i = .agg (ys.map (·.1)) ∧ Pl i = ys.flatMap (·.2) ∧ ys.length = fs.size ∧
        ∀ (j : Nat) (f : Field), fs[j]? = some f → ∃ (v : Value) (y : DataW H × List MemPlace), w.cell? (a.add (i * fs.size + j)) = some v ∧ ys[j]? = some y ∧ DataW.trod enc P w base spare held n f.type [v] = some y := by
  rcases open_slice ht h with h0 | ⟨a, len, cap, m, n, D, Pl, hcs, hb, hl, hm, hmm, hx, hi⟩
  · exact .inl h0
  · refine .inr ⟨a, len, cap, m, D, Pl, hcs, hb, hl, hm, hmm, by rw [hC] at hx; exact hx, fun i him => ?_⟩
    obtain ⟨cs', hc, ht'⟩ := hi i him
    rw [hC] at hc
    obtain ⟨ys, n', hn', hy, hlen, hyl, hf⟩ := DataW.trod_struct he ht'
    obtain ⟨_, hcl, hat⟩ := World.cells?_some hc
    simp only [Prod.mk.injEq] at hy
    refine ⟨ys, n', hy.1, hy.2, hyl, fun j f hj => ?_⟩
    obtain ⟨ho, hk⟩ := hone_of hone j f hj
    have hjl : j < fs.size := (Array.getElem?_eq_some_iff.1 hj).1
    have hcell := hat j hjl
    have hv : cs'[j]? = some (cs'[j]'(by omega)) := List.getElem?_eq_getElem (by omega)
    have h1 := hf j f hj
    rw [ho, hk] at h1
    have hone' : (cs'.drop j).take 1 = [cs'[j]'(by omega)] := by
      rw [List.drop_eq_getElem_cons (by omega)]
      rfl
    rw [hone'] at h1
    have hys : ys[j]? = some (ys[j]'(by omega)) := List.getElem?_eq_getElem (by omega)
    refine ⟨_, _, ?_, hys, h1.trans hys⟩
    rw [← Go.Deep.add_add, hcell, hv]
end

/-- An address at which a cell lies is no inner spot. -/
theorem spot_none {w : World} {a : Addr} {v : Value} (h : w.cell? (a.add 0) = some v) : a = ⟨a.block, a.off, none⟩ := by
  obtain ⟨b, o, s⟩ := a
  cases s with
  | none => rfl
  | some x =>
    simp only [Addr.add, if_true, World.cell?, Option.isSome_some] at h
    split at h <;> simp at h
theorem addr_add (a : Addr) (b o n : Nat) (h : a = ⟨b, o, none⟩) : a.add n = ⟨b, o + n, none⟩ := by
  subst h; exact Addr.add_lit _ _ _
end Go.Proofs.Own
