/- Several texts in one: Ar, Rf, Rg, Rn, Rh, Ri, Rj, Rk, Rm, Ro, Rp, Rq. What each proves stands ahead of it. -/
import Derived.Test.YtofhccpagnkalaaGreatBunC
import Derived.Test.YtofhccpagnkalaaGreatFree
import Derived.Test.YtofhccpagnkalaaGreatBunVp
/- The call's own slice of rows of several cells, and an append of one row to it: over any program; no conditions. -/
namespace Go.Proofs.Own
open Go Go.RowKit

/-- The call's own slice of rows of sz cells: nil, or a row from block base on. -/
structure OwnR (w : World) (base : Nat) (e : TypeId) (sz : Nat) (v : Value) (rs : List (List Value)) : Prop where
  own : w.ownsRow base e sz v rs.length rs.flatten
  each : ∀ r ∈ rs, r.length = sz
theorem OwnR.nil (w : World) (base : Nat) (e : TypeId) (sz : Nat) : OwnR w base e sz (.slice none 0 0) [] := ⟨World.ownsRow_nil w base e sz, nofun⟩
theorem OwnR.lt {w : World} {base : Nat} {e : TypeId} {sz : Nat} {v : Value} {rs : List (List Value)} (h : OwnR w base e sz v rs) : ∀ b, v.ownBlock = some b → base ≤ b ∧ b < w.heap.size := World.ownsRow.lt h.own
theorem OwnR.shape {w : World} {base : Nat} {e : TypeId} {sz : Nat} {v : Value} {rs : List (List Value)} (h : OwnR w base e sz v rs) : ∃ a c, v = .slice a rs.length c := by
  rcases h.own.2 with ⟨rfl, h0⟩ | ⟨g, cap, cur, rfl, _⟩
  · exact ⟨none, 0, by rw [h0]⟩
  · exact ⟨_, _, rfl⟩
theorem OwnR.kept {w w' : World} {base : Nat} {e : TypeId} {sz : Nat} {v : Value} {rs : List (List Value)} {S : Nat → Prop} (h : OwnR w base e sz v rs) (hk : Kept w w' S) (hs : ∀ b, v.ownBlock = some b → ¬ S b) : OwnR w' base e sz v rs := by
  refine ⟨⟨h.own.1, ?_⟩, h.each⟩
  rcases h.own.2 with hn | ⟨g, cap, cur, rfl, hb, hg, r⟩
  · exact .inl hn
  · exact .inr ⟨g, cap, cur, rfl, hb, by rw [hk.block g (Array.getElem?_eq_some_iff.1 hg).1 (hs g rfl)]; exact hg, r⟩
theorem OwnR.below {w w' : World} {base : Nat} {e : TypeId} {sz : Nat} {v : Value} {rs : List (List Value)} (h : OwnR w base e sz v rs) (hb : Below w.heap.size w w') : OwnR w' base e sz v rs :=
  h.kept (Kept.of_below hb (S := fun _ => False) fun k h1 h2 => by omega) fun _ _ h => h
theorem OwnR.alloc {w : World} {base : Nat} {e : TypeId} {sz : Nat} {v : Value} {rs : List (List Value)} (h : OwnR w base e sz v rs) (o : Obj) : OwnR (w.alloc o) base e sz v rs := h.below ((Below.refl _ _).alloc (Nat.le_refl _) o)
theorem OwnR.lower {w : World} {base base' : Nat} {e : TypeId} {sz : Nat} {v : Value} {rs : List (List Value)} (h : OwnR w base e sz v rs) (hb : ∀ b, v.ownBlock = some b → base' ≤ b) : OwnR w base' e sz v rs := by
  refine ⟨⟨h.own.1, ?_⟩, h.each⟩
  rcases h.own.2 with hn | ⟨g, cap, cur, rfl, _, r⟩
  · exact .inl hn
  · exact .inr ⟨g, cap, cur, rfl, hb g rfl, r⟩
theorem flatten_at {sz : Nat} : ∀ {rs : List (List Value)}, (∀ r ∈ rs, r.length = sz) → ∀ {j : Nat} (hj : j < rs.length) {i : Nat} {x : Value}, rs[j][i]? = some x → rs.flatten[j * sz + i]? = some x
  | [], _, j, hj, _, _, _ => absurd hj (Nat.not_lt_zero j)
  | r :: rs, h, j, hj, i, x, hx => by
    have hr : r.length = sz := h r List.mem_cons_self
    cases j with
    | zero =>
      have hx' : r[i]? = some x := by simpa using hx
      have hi : i < r.length := (List.getElem?_eq_some_iff.1 hx').1
      rw [List.flatten_cons, Nat.zero_mul, Nat.zero_add, List.getElem?_append_left hi]
      exact hx'
    | succ j =>
      have hx' : (rs[j]'(by simpa using hj))[i]? = some x := by simpa using hx
      rw [List.flatten_cons, List.getElem?_append_right (by rw [hr, Nat.add_mul]; omega), hr, show (j + 1) * sz + i - sz = j * sz + i by rw [Nat.add_mul]; omega]
      exact flatten_at (fun q hq => h q (List.mem_cons_of_mem _ hq)) _ hx'
theorem flatten_len {sz : Nat} : ∀ {rs : List (List Value)}, (∀ r ∈ rs, r.length = sz) → rs.flatten.length = rs.length * sz
  | [], _ => by simp
  | r :: rs, h => by
    rw [List.flatten_cons, List.length_append, h r List.mem_cons_self, flatten_len fun q hq => h q (List.mem_cons_of_mem _ hq), List.length_cons, Nat.add_mul]
    omega

/-- t is the type of slices of rows of type e, sz cells and by' bytes each. -/
structure RowSlice (P : Program) (t e : TypeId) (sz by' : Nat) : Prop where
  under : P.underlying t = some (.slice e)
  info : ∃ i z, P.info? e = some i ∧ i.zero = some z ∧ i.size = sz ∧ i.bytes = by' ∧ z.cells.size = sz
  pos : 0 < sz
  few : by' ≤ 1024

theorem run_append_row {P : Program} {t e : TypeId} {sz by' : Nat} (I : RowSlice P t e sz by') (w : World) (ty : TypeId) (base : Nat) (v : Value) (rs : List (List Value)) (g : Nat) (r : List Value)
    (hown : OwnR w base e sz v rs) (hr : r.length = sz) (hc : ∀ j u, r[j]? = some u → w.cell? ⟨g, j, none⟩ = some u) (h1 : ∀ u ∈ r, u.oneCell' = true) (hlen : rs.length ≤ 4294967296) (hbase : base ≤ w.heap.size) :
    ∃ v' w', (Builtin.append_ #[t, t] ty #[v, .slice (some ⟨g, 0, none⟩) 1 1]).run P w = .ok v' w' ∧ OwnR w' base e sz v' (rs ++ [r]) ∧ w.grownBy w' v.ownBlock ∧ (v'.ownBlock = v.ownBlock ∨ v'.ownBlock = some w.heap.size) ∧ Below base w w' := by
  obtain ⟨i, z, hi, hz, hs, hb, hzs⟩ := I.info
  obtain ⟨v', w', hrun, g1, g2, _, g4⟩ := run_append_own_at (P := P) w base t ty e i z sz by' I.under hi hz hs hb hzs I.pos v rs.length rs.flatten hown.own ⟨g, 0, none⟩ 1 1 r (by rw [hr]; omega)
    (fun j u hu => by rw [Addr.add_lit, Nat.zero_add]; exact hc j u hu) h1 (by unfold maxLen; omega) (by have := Nat.mul_le_mul (show rs.length + 1 ≤ 4294967297 by omega) I.few; omega) hbase
  refine ⟨v', w', hrun, ⟨by rw [List.length_append, List.flatten_append]; simpa using g1, ?_⟩, g2, g4, (Below.refl _ _).grown g2 hbase fun k hk => (hown.lt k hk).1⟩
  intro q hq
  rcases List.mem_append.1 hq with hq | hq
  · exact hown.each q hq
  · obtain rfl := List.mem_singleton.1 hq; exact hr

section
variable {P : Program} {t e : TypeId} {sz by' : Nat} (I : RowSlice P t e sz by') {w : World} {o : Oper} {a : Act} {Q : Exit → Act → World → Prop} (s x : Operand)
  (ho : o.op = .call { callee := .builtin .append, args := #[s, x], argTypes := #[t, t] }) (base : Nat) (v : Value) (rs : List (List Value)) (g : Nat) (r : List Value) (hs : a.eval s = v) (hx : a.eval x = .slice (some ⟨g, 0, none⟩) 1 1)
  (hown : OwnR w base e sz v rs) (hr : r.length = sz) (hc : ∀ j u, r[j]? = some u → w.cell? ⟨g, j, none⟩ = some u) (h1 : ∀ u ∈ r, u.oneCell' = true) (hlen : rs.length ≤ 4294967296) (hbase : base ≤ w.heap.size)
include I ho hs hx hown hr hc h1 hlen hbase
theorem wp_append_row {K : Act → World → Prop}
    (h : ∀ v' w', OwnR w' base e sz v' (rs ++ [r]) → w.grownBy w' v.ownBlock → (v'.ownBlock = v.ownBlock ∨ v'.ownBlock = some w.heap.size) → Below base w w' → K (a.put o.dst v') w') : o.wp P a w K Q := by
  obtain ⟨v', w', hrun, k1, k2, k3, k4⟩ := run_append_row I w o.type base v rs g r hown hr hc h1 hlen hbase
  unfold Oper.wp execOp
  simp only [ho, resolve, invoke, builtin, Sem.run_bind, Sem.run_pure, Result.andThen_ok, List.map_toArray, List.map_cons, List.map_nil, hs, hx, hrun]
  exact h v' w' k1 k2 k3 k4
theorem wpList_append_row {ops : Array Oper} {rest : List Oper} (hgd : o.guard = none)
    (h : ∀ v' w', OwnR w' base e sz v' (rs ++ [r]) → w.grownBy w' v.ownBlock → (v'.ownBlock = v.ownBlock ∨ v'.ownBlock = some w.heap.size) → Below base w w' → wpList P ops Q rest (a.put o.dst v') w') :
    wpList P ops Q (o :: rest) a w :=
  wpList_plain hgd fun _ hK => wp_append_row I s x ho base v rs g r hs hx hown hr hc h1 hlen hbase fun v' w' k1 k2 k3 k4 => hK _ _ (h v' w' k1 k2 k3 k4)
theorem step_append_row {ops : Array Oper} {K : Act → World → Prop} {E : Prop} (hgd : o.guard = none)
    (h : ∀ v' w', OwnR w' base e sz v' (rs ++ [r]) → w.grownBy w' v.ownBlock → (v'.ownBlock = v.ownBlock ∨ v'.ownBlock = some w.heap.size) → Below base w w' → K (a.put o.dst v') w') :
    if Region.wanted o (yielded ops a.tmps) = true then Oper.wp P o a w K Q else E := by
  have hw : Region.wanted o (yielded ops a.tmps) = true := by simp [Region.wanted, hgd]
  rw [if_pos hw]
  exact wp_append_row I s x ho base v rs g r hs hx hown hr hc h1 hlen hbase h
end
end Go.Proofs.Own
namespace Go.Proofs.YtofhccpagnkalaaGreat
open Go.RowKit Go.Maps Go.Proofs.Own
theorem SRow.of_own {w : World} {base : Nat} {e : TypeId} {sz : Nat} {v : Value} {rs : List (List Value)} (h : OwnR w base e sz v rs) : SRow w sz v rs := by
  have hw := h.own
  rcases h.own.2 with ⟨rfl, h0⟩ | ⟨g, cap, cur, rfl, _, hg, hn, _⟩
  · have : rs = [] := List.eq_nil_of_length_eq_zero h0
    subst this
    exact SRow.nil w sz
  · refine ⟨_, _, rfl, hn, fun j hj => ⟨g, 0, rfl, (Array.getElem?_eq_some_iff.1 hg).1, fun i x hx => ?_⟩⟩
    rw [Nat.zero_add]
    have hf := flatten_at h.each hj hx
    have hlt : j * sz + i < rs.length * sz := by
      have := (List.getElem?_eq_some_iff.1 hf).1
      rwa [flatten_len h.each] at this
    rw [hw.cellAt (j * sz + i) hlt]
    exact hf
end Go.Proofs.YtofhccpagnkalaaGreat

/- What the document's disk is: the same files, by strings; plain. -/
namespace Go.Proofs.YtofhccpagnkalaaGreat
open Go.RowKit Go.Maps Go.Proofs.Own

/-- A file's cells, as the document's. -/
def rfV (f : FileS) : List Value := [.string f.name, .string (strN f.all), .int .i64 f.kept]
/-- Its bytes are bytes. -/
def Byt8 (L : List FileS) : Prop := ∀ f ∈ L, ∀ c ∈ f.all, c < 256
/-- The value v is the document's disk D. -/
def RIs (w : World) (v : Value) (D : DiskS) : Prop := ∃ a c, v = .agg #[.int .i64 D.room, .slice a D.files.length c, .bool D.down, .int .i64 D.armed, .int .u64 D.steps] ∧ SRow w 3 (.slice a D.files.length c) (D.files.map rfV)
theorem RIs.below {w w' : World} {v : Value} {D : DiskS} (h : RIs w v D) (hb : Below w.heap.size w w') : RIs w' v D := let ⟨a, c, h1, h2⟩ := h; ⟨a, c, h1, h2.below hb⟩
theorem str_eq (a b : ByteArray) : (a.toList == b.toList) = decide (a = b) := by
  rw [ByteArray.toList_eq, ByteArray.toList_eq]
  by_cases h : a = b
  · subst h; simp
  · rw [decide_eq_false h]
    refine beq_eq_false_iff_ne.2 fun e => h ?_
    cases a; cases b
    congr
    exact Array.toList_inj.1 e
theorem less_before : ∀ a b : List UInt8, Op.bytesLess a b = bytesBefore a b
  | [], [] => rfl
  | [], _ :: _ => rfl
  | _ :: _, [] => rfl
  | a :: r, b :: s => by unfold Op.bytesLess bytesBefore; rw [less_before r s]
theorem str_lt (a b : ByteArray) : Op.bytesLess a.toList b.toList = nameLt a b := by
  rw [ByteArray.toList_eq, ByteArray.toList_eq, less_before]
  rfl
theorem strN_app (l m : List Nat) : strN l ++ strN m = strN (l ++ m) := by
  have h : (strN l ++ strN m).data = (strN (l ++ m)).data := by
    rw [ByteArray.data_append]
    simp [strN]
  cases h1 : strN l ++ strN m with
  | mk d => cases h2 : strN (l ++ m) with
    | mk d' => rw [h1, h2] at h; simp only at h; rw [h]
theorem strN_take (l : List Nat) (k : Nat) : (strN l).extract 0 k = strN (l.take k) := by
  have h : ((strN l).extract 0 k).data = (strN (l.take k)).data := by
    rw [ByteArray.data_extract]
    simp [strN, List.map_take]
  cases h1 : (strN l).extract 0 k with
  | mk d => cases h2 : strN (l.take k) with
    | mk d' => rw [h1, h2] at h; simp only at h; rw [h]
theorem strN_drop (l : List Nat) (k : Nat) : (strN l).extract k l.length = strN (l.drop k) := by
  have h : ((strN l).extract k l.length).data = (strN (l.drop k)).data := by
    rw [ByteArray.data_extract]
    simp [strN, List.map_drop, List.take_of_length_le]
  cases h1 : (strN l).extract k l.length with
  | mk d => cases h2 : strN (l.drop k) with
    | mk d' => rw [h1, h2] at h; simp only at h; rw [h]

/-- The place of a file, or -1. -/
def findI (n : ByteArray) (L : List FileS) : Int := if findFile n L = none then -1 else ((L.takeWhile fun f => !decide (f.name = n)).length : Nat)
theorem take_none {n : ByteArray} {L : List FileS} (h : ∀ f ∈ L, ¬ f.name = n) : findI n L = -1 := by unfold findI; rw [if_pos (find_none h)]
theorem find_first {n : ByteArray} : ∀ {L : List FileS} {i : Nat} {f : FileS}, L[i]? = some f → f.name = n → (∀ g ∈ L.take i, ¬ g.name = n) → findFile n L = some f ∧ (L.takeWhile fun f => !decide (f.name = n)).length = i
  | [], i, f, h, _, _ => by simp at h
  | g :: L, 0, f, h, hn, _ => by
    obtain rfl : g = f := by simpa using h
    exact ⟨find_cons_eq hn, by rw [List.takeWhile_cons_of_neg (by simpa using hn)]; rfl⟩
  | g :: L, i + 1, f, h, hn, hb => by
    have hg : ¬ g.name = n := hb g (by rw [List.take_succ_cons]; exact List.mem_cons_self)
    obtain ⟨h1, h2⟩ := find_first (L := L) (i := i) (f := f) (by simpa using h) hn fun q hq => hb q (by rw [List.take_succ_cons]; exact List.mem_cons_of_mem _ hq)
    exact ⟨(find_cons_ne hg).trans h1, by rw [List.takeWhile_cons_of_pos (by simpa using hg), List.length_cons, h2]⟩
theorem findI_first {n : ByteArray} {L : List FileS} {i : Nat} {f : FileS} (h : L[i]? = some f) (hn : f.name = n) (hb : ∀ g ∈ L.take i, ¬ g.name = n) : findI n L = i := by
  obtain ⟨h1, h2⟩ := find_first h hn hb
  unfold findI
  rw [if_neg (by rw [h1]; simp), h2]
/-- Where it is: there. -/
theorem findI_some {n : ByteArray} {L : List FileS} {f : FileS} (h : findFile n L = some f) : ∃ i : Nat, findI n L = i ∧ L[i]? = some f := by
  induction L with
  | nil => simp [findFile] at h
  | cons g L ih =>
    by_cases hg : g.name = n
    · rw [find_cons_eq hg] at h
      obtain rfl := Option.some.inj h
      exact ⟨0, findI_first rfl hg (by simp), rfl⟩
    · rw [find_cons_ne hg] at h
      obtain ⟨i, h1, h2⟩ := ih h
      refine ⟨i + 1, ?_, by simpa using h2⟩
      unfold findI at h1 ⊢
      rw [if_neg (by rw [h]; simp)] at h1
      rw [if_neg (by rw [find_cons_ne hg, h]; simp), List.takeWhile_cons_of_pos (by simpa using hg), List.length_cons]
      have : (L.takeWhile fun f => !decide (f.name = n)).length = i := by omega
      omega
theorem findI_none {n : ByteArray} {L : List FileS} : findI n L = -1 ↔ findFile n L = none := by
  constructor
  · intro h
    cases e : findFile n L with
    | none => rfl
    | some f =>
      obtain ⟨i, h1, _⟩ := findI_some e
      omega
  · intro h; unfold findI; rw [if_pos h]
/-- Insertion, as a walk along the row does it. -/
theorem ins_split (f : FileS) : ∀ L : List FileS, ∃ A B, L = A ++ B ∧ insFile f L = A ++ f :: B ∧ (∀ g ∈ A, nameLt f.name g.name = false) ∧ (∀ g, B.head? = some g → nameLt f.name g.name = true)
  | [] => ⟨[], [], rfl, rfl, nofun, nofun⟩
  | g :: L => by
    by_cases h : nameLt f.name g.name = true
    · refine ⟨[], g :: L, rfl, by rw [insFile, if_pos h]; rfl, fun q hq => (by cases hq), fun q hq => ?_⟩
      obtain rfl : g = q := Option.some.inj hq
      exact h
    · obtain ⟨A, B, h1, h2, h3, h4⟩ := ins_split f L
      refine ⟨g :: A, B, by rw [h1]; rfl, by rw [insFile, if_neg h, h2]; rfl, fun q hq => ?_, h4⟩
      rcases List.mem_cons.1 hq with rfl | hq
      · simpa using h
      · exact h3 q hq
end Go.Proofs.YtofhccpagnkalaaGreat

/- The document's disk: New, Arm, Boot, Resize, one step; contracts; no conditions but the ranges. -/
namespace Go.Proofs.YtofhccpagnkalaaGreat
open Go.RowKit Go.Maps Go.Proofs.Own

/-- Block b is the document's disk D; its files' value is fv. -/
structure RD (w : World) (b : Nat) (D : DiskS) (fv : Value) : Prop where
  c0 : w.cell? ⟨b, 0, none⟩ = some (.int .i64 D.room)
  c1 : w.cell? ⟨b, 1, none⟩ = some fv
  c2 : w.cell? ⟨b, 2, none⟩ = some (.bool D.down)
  c3 : w.cell? ⟨b, 3, none⟩ = some (.int .i64 D.armed)
  c4 : w.cell? ⟨b, 4, none⟩ = some (.int .u64 D.steps)
  f0 : w.frozen? ⟨b, 0, none⟩ = false
  f1 : w.frozen? ⟨b, 1, none⟩ = false
  f2 : w.frozen? ⟨b, 2, none⟩ = false
  f3 : w.frozen? ⟨b, 3, none⟩ = false
  f4 : w.frozen? ⟨b, 4, none⟩ = false
theorem RD.lt {w : World} {b : Nat} {D : DiskS} {fv : Value} (h : RD w b D fv) : b < w.heap.size := World.block_lt_of_cell? _ _ h.c0
theorem RD.kept {w w' : World} {b : Nat} {D : DiskS} {fv : Value} {S : Nat → Prop} (h : RD w b D fv) (hk : Kept w w' S) (hs : ¬ S b) : RD w' b D fv :=
  ⟨hk.cell h.c0 hs, hk.cell h.c1 hs, hk.cell h.c2 hs, hk.cell h.c3 hs, hk.cell h.c4 hs, (hk.frozen (a := ⟨b, 0, none⟩) h.lt hs).trans h.f0, (hk.frozen (a := ⟨b, 1, none⟩) h.lt hs).trans h.f1, (hk.frozen (a := ⟨b, 2, none⟩) h.lt hs).trans h.f2, (hk.frozen (a := ⟨b, 3, none⟩) h.lt hs).trans h.f3, (hk.frozen (a := ⟨b, 4, none⟩) h.lt hs).trans h.f4⟩
theorem RD.below {w w' : World} {b : Nat} {D : DiskS} {fv : Value} (h : RD w b D fv) (hb : Below w.heap.size w w') : RD w' b D fv := h.kept (Kept.of_below hb (S := fun _ => False) fun k h1 h2 => by omega) (fun h => h)
theorem RD.box (w : World) (D : DiskS) (fv : Value) : RD (w.alloc (.cells #[.int .i64 D.room, fv, .bool D.down, .int .i64 D.armed, .int .u64 D.steps] 29)) w.heap.size D fv :=
  ⟨by go_cell, by go_cell, by go_cell, by go_cell, by go_cell, by simp, by simp, by simp, by simp, by simp⟩
def zeroD : DiskS := ⟨0, [], false, 0, 0⟩
theorem RD.zero (w : World) : RD (w.alloc (.cells #[.int .i64 0, .slice none 0 0, .bool false, .int .i64 0, .int .u64 0] 29)) w.heap.size zeroD (.slice none 0 0) := RD.box w zeroD _
/-- All five cells are laid anew. -/
def set5D (w : World) (b : Nat) (D : DiskS) (fv : Value) : World :=
  ((((w.setCell ⟨b, 0, none⟩ (.int .i64 D.room)).setCell ⟨b, 1, none⟩ fv).setCell ⟨b, 2, none⟩ (.bool D.down)).setCell ⟨b, 3, none⟩ (.int .i64 D.armed)).setCell ⟨b, 4, none⟩ (.int .u64 D.steps)
theorem Kept.set5D (w : World) (b : Nat) (D : DiskS) (fv : Value) : Kept w (set5D w b D fv) (fun k => k = b) :=
  ((((Kept.setCell w ⟨b, 0, none⟩ _).trans (Kept.setCell _ ⟨b, 1, none⟩ _)).trans (Kept.setCell _ ⟨b, 2, none⟩ _)).trans (Kept.setCell _ ⟨b, 3, none⟩ _)).trans (Kept.setCell _ ⟨b, 4, none⟩ _)
theorem RD.set {w : World} {b : Nat} {D : DiskS} {fv : Value} (h : RD w b D fv) (D' : DiskS) (fv' : Value) : RD (set5D w b D' fv') b D' fv' := by
  unfold set5D
  refine ⟨?_, ?_, ?_, ?_, ?_, ?_, ?_, ?_, ?_, ?_⟩
  · rw [World.cell?_setCell_other _ _ _ _ (by simp), World.cell?_setCell_other _ _ _ _ (by simp), World.cell?_setCell_other _ _ _ _ (by simp), World.cell?_setCell_other _ _ _ _ (by simp)]; exact World.cell?_setCell_same _ _ _ h.c0
  · rw [World.cell?_setCell_other _ _ _ _ (by simp), World.cell?_setCell_other _ _ _ _ (by simp), World.cell?_setCell_other _ _ _ _ (by simp)]; exact World.cell?_setCell_same _ _ _ (by rw [World.cell?_setCell_other _ _ _ _ (by simp)]; exact h.c1)
  · rw [World.cell?_setCell_other _ _ _ _ (by simp), World.cell?_setCell_other _ _ _ _ (by simp)]; exact World.cell?_setCell_same _ _ _ (by rw [World.cell?_setCell_other _ _ _ _ (by simp), World.cell?_setCell_other _ _ _ _ (by simp)]; exact h.c2)
  · rw [World.cell?_setCell_other _ _ _ _ (by simp)]; exact World.cell?_setCell_same _ _ _ (by rw [World.cell?_setCell_other _ _ _ _ (by simp), World.cell?_setCell_other _ _ _ _ (by simp), World.cell?_setCell_other _ _ _ _ (by simp)]; exact h.c3)
  · exact World.cell?_setCell_same _ _ _ (by rw [World.cell?_setCell_other _ _ _ _ (by simp), World.cell?_setCell_other _ _ _ _ (by simp), World.cell?_setCell_other _ _ _ _ (by simp), World.cell?_setCell_other _ _ _ _ (by simp)]; exact h.c4)
  · rw [World.frozen?_setCell, World.frozen?_setCell, World.frozen?_setCell, World.frozen?_setCell, World.frozen?_setCell]; exact h.f0
  · rw [World.frozen?_setCell, World.frozen?_setCell, World.frozen?_setCell, World.frozen?_setCell, World.frozen?_setCell]; exact h.f1
  · rw [World.frozen?_setCell, World.frozen?_setCell, World.frozen?_setCell, World.frozen?_setCell, World.frozen?_setCell]; exact h.f2
  · rw [World.frozen?_setCell, World.frozen?_setCell, World.frozen?_setCell, World.frozen?_setCell, World.frozen?_setCell]; exact h.f3
  · rw [World.frozen?_setCell, World.frozen?_setCell, World.frozen?_setCell, World.frozen?_setCell, World.frozen?_setCell]; exact h.f4
/-- What a call of the document's disk tells: a disk, and a number. -/
def RPost (r : DiskS × Nat) (w : World) : Ending → World → Prop := fun e w' => ∃ v, e = .returned (.tuple #[v, .int .i64 r.2]) ∧ RIs w' v r.1 ∧ Below w.heap.size w w'
/-- .. its files' rows new. -/
def RNew (D : DiskS) (w : World) : Ending → World → Prop := fun e w' => ∃ a c, e = .returned (.agg #[.int .i64 D.room, .slice a D.files.length c, .bool D.down, .int .i64 D.armed, .int .u64 D.steps]) ∧ SRow w' 3 (.slice a D.files.length c) (D.files.map rfV) ∧ (∀ g, (Value.slice a D.files.length c).ownBlock = some g → w.heap.size ≤ g) ∧ Below w.heap.size w w'
def RPost1 (D : DiskS) (w : World) : Ending → World → Prop := fun e w' => ∃ v, e = .returned v ∧ RIs w' v D ∧ Below w.heap.size w w'

set_option maxHeartbeats 1000000 in
theorem rnew_any (room : Int) (w : World) : Calls Tryz.prog 9 #[.int .i64 room] w (RPost1 ⟨room, [], false, -1, 0⟩ w) := by
  go_enter Tryz.func9, Tryz.ntmps9
  go_wp2_with fail
  refine bodyPost_ret (v := .agg #[.int .i64 room, .slice none 0 0, .bool false, .int .i64 (-1), .int .u64 0]) (by simp [results, Tryz.results9, go_sem]) rfl ?_
  exact ⟨_, rfl, ⟨none, 0, rfl, SRow.nil _ _⟩, (Below.refl _ _).alloc (Nat.le_refl _) _⟩
set_option maxHeartbeats 1000000 in
theorem rboot_any (v : Value) (D : DiskS) (w : World) (h : RIs w v D) : Calls Tryz.prog 59 #[v] w (RPost1 (bootD D) w) := by
  obtain ⟨a, c, rfl, hr⟩ := h
  obtain ⟨room, L, down, armed, steps⟩ := D
  simp only at hr ⊢
  have HR := Lib.hid hr
  clear hr
  go_enter Tryz.func59, Tryz.ntmps59
  go_wp2_with fail
  refine bodyPost_ret (v := .agg #[.int .i64 room, .slice a L.length c, .bool false, .int .i64 (-1), .int .u64 steps]) (by simp [results, Tryz.results59, go_sem]) rfl ?_
  exact ⟨_, rfl, ⟨a, c, rfl, HR.out.below (((Below.refl _ _).alloc (Nat.le_refl _) _).alloc (by simp) _)⟩, ((Below.refl _ _).alloc (Nat.le_refl _) _).alloc (by simp) _⟩
set_option maxHeartbeats 1000000 in
theorem rarm_any (v : Value) (D : DiskS) (n : Int) (w : World) (h : RIs w v D) : Calls Tryz.prog 63 #[v, .int .i64 n] w (RPost (armD D n) w) := by
  obtain ⟨a, c, rfl, hr⟩ := h
  obtain ⟨room, L, down, armed, steps⟩ := D
  simp only at hr ⊢
  have HR := Lib.hid hr
  clear hr
  unfold armD
  cases down
  · rw [if_neg (by simp)]
    by_cases hneg : n < 0
    · rw [if_pos hneg]
      go_enter Tryz.func63, Tryz.ntmps63
      go_wp2_with fail
      refine bodyPost_ret (v := .tuple #[.agg #[.int .i64 room, .slice a L.length c, .bool false, .int .i64 armed, .int .u64 steps], .int .i64 2]) (by simp [results, Tryz.results63, go_sem]) rfl ?_
      exact ⟨_, rfl, ⟨a, c, rfl, HR.out.below (((Below.refl _ _).alloc (Nat.le_refl _) _).alloc (by simp) _)⟩, ((Below.refl _ _).alloc (Nat.le_refl _) _).alloc (by simp) _⟩
    · rw [if_neg hneg]
      go_enter Tryz.func63, Tryz.ntmps63
      go_wp2_with fail
      refine bodyPost_ret (v := .tuple #[.agg #[.int .i64 room, .slice a L.length c, .bool false, .int .i64 n, .int .u64 steps], .int .i64 0]) (by simp [results, Tryz.results63, go_sem]) rfl ?_
      exact ⟨_, rfl, ⟨a, c, rfl, HR.out.below (((Below.refl _ _).alloc (Nat.le_refl _) _).alloc (by simp) _)⟩, ((Below.refl _ _).alloc (Nat.le_refl _) _).alloc (by simp) _⟩
  · rw [if_pos rfl]
    go_enter Tryz.func63, Tryz.ntmps63
    go_wp2_with fail
    refine bodyPost_ret (v := .tuple #[.agg #[.int .i64 room, .slice a L.length c, .bool true, .int .i64 armed, .int .u64 steps], .int .i64 50]) (by simp [results, Tryz.results63, go_sem]) rfl ?_
    exact ⟨_, rfl, ⟨a, c, rfl, HR.out.below (((Below.refl _ _).alloc (Nat.le_refl _) _).alloc (by simp) _)⟩, ((Below.refl _ _).alloc (Nat.le_refl _) _).alloc (by simp) _⟩
set_option maxHeartbeats 1000000 in
theorem rresize_any (v : Value) (D : DiskS) (n : Int) (w : World) (h : RIs w v D) : Calls Tryz.prog 65 #[v, .int .i64 n] w (RPost (resizeD D n) w) := by
  obtain ⟨a, c, rfl, hr⟩ := h
  obtain ⟨room, L, down, armed, steps⟩ := D
  simp only at hr ⊢
  have HR := Lib.hid hr
  clear hr
  unfold resizeD
  cases down
  · rw [if_neg (by simp)]
    by_cases hneg : n < 0
    · rw [if_pos (.inl hneg)]
      go_enter Tryz.func65, Tryz.ntmps65
      go_wp2_with fail
      refine bodyPost_ret (v := .tuple #[.agg #[.int .i64 room, .slice a L.length c, .bool false, .int .i64 armed, .int .u64 steps], .int .i64 2]) (by simp [results, Tryz.results65, go_sem]) rfl ?_
      exact ⟨_, rfl, ⟨a, c, rfl, HR.out.below (((Below.refl _ _).alloc (Nat.le_refl _) _).alloc (by simp) _)⟩, ((Below.refl _ _).alloc (Nat.le_refl _) _).alloc (by simp) _⟩
    · by_cases hbig : 1048576 < n
      · rw [if_pos (.inr hbig)]
        go_enter Tryz.func65, Tryz.ntmps65
        go_wp2_with fail
        refine bodyPost_ret (v := .tuple #[.agg #[.int .i64 room, .slice a L.length c, .bool false, .int .i64 armed, .int .u64 steps], .int .i64 2]) (by simp [results, Tryz.results65, go_sem]) rfl ?_
        exact ⟨_, rfl, ⟨a, c, rfl, HR.out.below (((Below.refl _ _).alloc (Nat.le_refl _) _).alloc (by simp) _)⟩, ((Below.refl _ _).alloc (Nat.le_refl _) _).alloc (by simp) _⟩
      · rw [if_neg (by omega)]
        go_enter Tryz.func65, Tryz.ntmps65
        go_wp2_with fail
        refine bodyPost_ret (v := .tuple #[.agg #[.int .i64 n, .slice a L.length c, .bool false, .int .i64 armed, .int .u64 steps], .int .i64 0]) (by simp [results, Tryz.results65, go_sem]) rfl ?_
        exact ⟨_, rfl, ⟨a, c, rfl, HR.out.below (((Below.refl _ _).alloc (Nat.le_refl _) _).alloc (by simp) _)⟩, ((Below.refl _ _).alloc (Nat.le_refl _) _).alloc (by simp) _⟩
  · rw [if_pos rfl]
    go_enter Tryz.func65, Tryz.ntmps65
    go_wp2_with fail
    refine bodyPost_ret (v := .tuple #[.agg #[.int .i64 room, .slice a L.length c, .bool true, .int .i64 armed, .int .u64 steps], .int .i64 50]) (by simp [results, Tryz.results65, go_sem]) rfl ?_
    exact ⟨_, rfl, ⟨a, c, rfl, HR.out.below (((Below.refl _ _).alloc (Nat.le_refl _) _).alloc (by simp) _)⟩, ((Below.refl _ _).alloc (Nat.le_refl _) _).alloc (by simp) _⟩
/-- A step: the disk, its files as they were, and whether the power is there still. -/
def StepPost (D : DiskS) (a : Option Addr) (n c : Nat) (w : World) : Ending → World → Prop := fun e w' => e = .returned (.tuple #[.agg #[.int .i64 D.room, .slice a n c, .bool (stepD D).down, .int .i64 (stepD D).armed, .int .u64 (stepD D).steps], .bool (decide (D.armed ≠ 0))]) ∧ Below w.heap.size w w'
set_option maxHeartbeats 1000000 in
theorem rstep_any (D : DiskS) (a : Option Addr) (n c : Nat) (w : World) (hs0 : 0 ≤ D.steps) (hs1 : D.steps ≤ 1000000000) (ha0 : -1 ≤ D.armed) (ha1 : D.armed ≤ 9223372036854775807) : Calls Tryz.prog 39 #[.agg #[.int .i64 D.room, .slice a n c, .bool D.down, .int .i64 D.armed, .int .u64 D.steps]] w (StepPost D a n c w) := by
  obtain ⟨room, L, down, armed, steps⟩ := D
  simp only at hs0 hs1 ha0 ha1 ⊢
  unfold StepPost stepD
  by_cases h0 : armed = 0
  · subst h0
    simp only [if_true, ne_eq, not_true_eq_false, decide_false]
    go_enter Tryz.func39, Tryz.ntmps39
    go_wp2_with fail
    refine bodyPost_ret (v := .tuple #[.agg #[.int .i64 room, .slice a n c, .bool true, .int .i64 (-1), .int .u64 (steps + 1)], .bool false]) (by simp [results, Tryz.results39, go_sem]) rfl ?_
    exact ⟨rfl, ((Below.refl _ _).alloc (Nat.le_refl _) _).alloc (by simp) _⟩
  · have hd : decide (armed ≠ 0) = true := decide_eq_true h0
    simp only [if_neg h0]
    rw [hd]
    have h0b : (armed == 0) = false := beq_eq_false_iff_ne.2 h0
    by_cases hp : 0 < armed
    · rw [if_pos hp]
      go_enter Tryz.func39, Tryz.ntmps39
      go_wp2_with fail
      refine bodyPost_ret (v := .tuple #[.agg #[.int .i64 room, .slice a n c, .bool down, .int .i64 (armed - 1), .int .u64 (steps + 1)], .bool true]) (by simp [results, Tryz.results39, go_sem]) rfl ?_
      exact ⟨rfl, ((Below.refl _ _).alloc (Nat.le_refl _) _).alloc (by simp) _⟩
    · rw [if_neg hp]
      go_enter Tryz.func39, Tryz.ntmps39
      go_wp2_with fail
      refine bodyPost_ret (v := .tuple #[.agg #[.int .i64 room, .slice a n c, .bool down, .int .i64 armed, .int .u64 (steps + 1)], .bool true]) (by simp [results, Tryz.results39, go_sem]) rfl ?_
      exact ⟨rfl, ((Below.refl _ _).alloc (Nat.le_refl _) _).alloc (by simp) _⟩
/-- A text that may be a name. -/
def isName (n : ByteArray) : Bool := decide (1 ≤ n.size ∧ n.size ≤ 16)
theorem rnamed_any (n : ByteArray) (w : World) (hn : n.size ≤ 9223372036854775807) : Calls Tryz.prog 36 #[.string n] w fun e w' => e = .returned (.bool (isName n)) ∧ w = w' := by
  by_cases h1 : 1 ≤ n.size
  · have b1 : (1 : Int) ≤ (n.size : Int) := by omega
    by_cases h2 : n.size ≤ 16
    · have b2 : (n.size : Int) ≤ 16 := by omega
      have HV : Hid (isName n = true) := Lib.hid (decide_eq_true ⟨h1, h2⟩)
      clear h1 h2
      go_enter Tryz.func36, Tryz.ntmps36
      go_wp2_with fail
      go_ret
      exact ⟨by rw [HV.out]; rfl, rfl⟩
    · have b2 : ¬ (n.size : Int) ≤ 16 := by omega
      have HV : Hid (isName n = false) := Lib.hid (decide_eq_false fun h => h2 h.2)
      clear h1 h2
      go_enter Tryz.func36, Tryz.ntmps36
      go_wp2_with fail
      go_ret
      exact ⟨by rw [HV.out]; rfl, rfl⟩
  · have b1 : ¬ (1 : Int) ≤ (n.size : Int) := by omega
    have HV : Hid (isName n = false) := Lib.hid (decide_eq_false fun h => h1 h.1)
    clear h1
    go_enter Tryz.func36, Tryz.ntmps36
    go_wp2_with fail
    go_ret
    exact ⟨by rw [HV.out]; rfl, rfl⟩

/-- The cells of a file among the files. -/
theorem SRow.file {w : World} {a : Option Addr} {n c : Nat} {L : List FileS} (h : SRow w 3 (.slice a n c) (L.map rfV)) {j : Nat} {f : FileS} (hj : L[j]? = some f) :
    ∃ b o, a = some ⟨b, o, none⟩ ∧ b < w.heap.size ∧ w.cell? ⟨b, o + j * 3, none⟩ = some (.string f.name) ∧ w.cell? ⟨b, o + j * 3 + 1, none⟩ = some (.string (strN f.all)) ∧ w.cell? ⟨b, o + j * 3 + 2, none⟩ = some (.int .i64 f.kept) := by
  obtain ⟨hl, he⟩ := List.getElem?_eq_some_iff.1 hj
  obtain ⟨b, o, h1, h2, h3⟩ := h.at (j := j) (by rw [List.length_map]; exact hl)
  rw [List.getElem_map, he] at h3
  exact ⟨b, o, h1, h2, by have := h3 0 _ rfl; rwa [Nat.add_zero] at this, h3 1 _ rfl, h3 2 _ rfl⟩
theorem getAt {α : Type} {l : List α} {j : Nat} (hj : j < l.length) : ∃ x, l[j]? = some x ∧ x ∈ l := ⟨l[j], List.getElem?_eq_getElem hj, List.getElem_mem hj⟩

set_option maxHeartbeats 1600000 in
set_option maxRecDepth 20000 in
theorem rfind_any (v : Value) (D : DiskS) (n : ByteArray) (w : World) (h : RIs w v D) (hm : D.files.length ≤ 1000) : Calls Tryz.prog 37 #[v, .string n] w fun e w' => e = .returned (.int .i64 (findI n D.files)) ∧ Below w.heap.size w w' := by
  obtain ⟨a, c, rfl, hr⟩ := h
  obtain ⟨room, L, down, armed, steps⟩ := D
  simp only at hr hm ⊢
  have HR := Lib.hid hr
  obtain ⟨m, hlm⟩ : ∃ m, L.length = m := ⟨_, rfl⟩
  have HL := Lib.hid hlm
  rw [hlm] at HR hm ⊢
  clear hr hlm
  go_enter Tryz.func37, Tryz.ntmps37
  go_wp2_with fail
  have BX := RD.box w ⟨room, L, down, armed, steps⟩ (.slice a m c)
  simp only at BX
  have B1 : Hid (Below w.heap.size w (w.alloc (.cells #[.int .i64 room, .slice a m c, .bool down, .int .i64 armed, .int .u64 steps] 29))) := Lib.hid ((Below.refl _ _).alloc (Nat.le_refl _) _)
  generalize World.alloc w _ = w1 at *
  have BX1 := Lib.hid BX
  clear BX
  go_loopw [5] (fun i wr => ∃ j : Nat, i = .int .i64 j ∧ j ≤ m ∧ (∀ g ∈ L.take j, ¬ g.name = n) ∧ wr = w1) (fun i _ => m - (intOf i).toNat)
  case atStart => exact ⟨0, rfl, by omega, by simp, rfl⟩
  case round =>
    obtain ⟨j, rfl, hj, hall, rfl⟩ := hrel
    have HA := Lib.hid hall
    clear hall
    obtain ⟨r0, r1, r2, r3, r4, _⟩ := BX1.out
    by_cases hlt : j < m
    · obtain ⟨f, hf, _⟩ := getAt (l := L) (j := j) (by rw [HL.out]; exact hlt)
      obtain ⟨b, o, rfl, hbl, c0, c1, c2⟩ := (HR.out.below B1.out).file hf
      have HF := Lib.hid hf
      clear hf
      by_cases hn : f.name = n
      · have hb : (f.name.toList == n.toList) = true := by rw [str_eq]; exact decide_eq_true hn
        have HV : Hid (findI n L = j) := Lib.hid (findI_first HF.out hn HA.out)
        clear hn
        go_wp2_with fail
        go_ret
        exact ⟨by rw [HV.out]; rfl, B1.out⟩
      · have hb : (f.name.toList == n.toList) = false := by rw [str_eq]; exact decide_eq_false hn
        have HNN := Lib.hid hn
        clear hn
        go_wp2_with fail
        go_roundw
        case rel =>
          refine ⟨j + 1, by first | rfl | go_num, by omega, fun g hg => ?_, by first | trivial | rfl⟩
          rw [List.take_add_one, HF.out] at hg
          rcases List.mem_append.1 hg with hg | hg
          · exact HA.out g hg
          · obtain rfl := List.mem_singleton.1 hg
            exact HNN.out
        all_goals (show m - ((j : Int) + 1).toNat < m - ((j : Int)).toNat; omega)
    · obtain rfl : j = m := by omega
      have HV : Hid (findI n L = -1) := Lib.hid (take_none fun f hf => HA.out f (by rw [List.take_of_length_le (by rw [HL.out]; exact Nat.le_refl _)]; exact hf))
      go_wp2_with fail
      go_ret
      exact ⟨by rw [HV.out]; rfl, B1.out⟩
end Go.Proofs.YtofhccpagnkalaaGreat

/- What a call of the document's disk tells, and where its files' slice lies: the old one, or new; no conditions. -/
namespace Go.Proofs.YtofhccpagnkalaaGreat
open Go.RowKit Go.Maps Go.Proofs.Own

/-- The block of a disk's files. -/
def fsOwn : Value → Option Nat
  | .agg vs => (vs.getD 1 (.bool false)).ownBlock
  | _ => none
/-- .. its files' slice is the old one, or lies in a new block. -/
def RPostN (r : DiskS × Nat) (v0 : Value) (w : World) : Ending → World → Prop := fun e w' => ∃ v, e = .returned (.tuple #[v, .int .i64 r.2]) ∧ RIs w' v r.1 ∧ Below w.heap.size w w' ∧ ∀ g, fsOwn v = some g → fsOwn v0 = some g ∨ w.heap.size ≤ g
theorem RPostN.post {r : DiskS × Nat} {v0 : Value} {w w' : World} {e : Ending} (h : RPostN r v0 w e w') : RPost r w e w' := let ⟨v, h1, h2, h3, _⟩ := h; ⟨v, h1, h2, h3⟩
end Go.Proofs.YtofhccpagnkalaaGreat

/- The document's disk without a file, and with one; contracts; no conditions but the ranges. -/
namespace Go.Proofs.YtofhccpagnkalaaGreat
open Go.RowKit Go.Maps Go.Proofs.Own

theorem rfile3 : RowSlice Tryz.prog 26 96 3 40 := by
  obtain ⟨i0, hi, hz0, hz1, hz2⟩ := info_parts (show (Tryz.prog.info? 96).map (fun i => (i.zero, i.size, i.bytes)) = some (some (.agg #[.string ⟨#[]⟩, .string ⟨#[]⟩, .int .i64 0]), 3, 40) by kernel_rfl)
  exact ⟨Tryz.underlying26, ⟨i0, _, hi, hz0, hz1, hz2, rfl⟩, by decide, by decide⟩
theorem rfV_len (f : FileS) : (rfV f).length = 3 := rfl
theorem rfV_one (f : FileS) : ∀ u ∈ rfV f, u.oneCell' = true := by
  intro u hu
  simp only [rfV, List.mem_cons, List.not_mem_nil, or_false] at hu
  rcases hu with rfl | rfl | rfl <;> rfl
theorem rfV_cells (w : World) (f : FileS) : ∀ j u, (rfV f)[j]? = some u → (w.alloc (.cells #[.string f.name, .string (strN f.all), .int .i64 f.kept] 96)).cell? ⟨w.heap.size, j, none⟩ = some u := by
  intro j u hu
  match j, hu with
  | 0, hu => obtain rfl : Value.string f.name = u := Option.some.inj hu; go_cell
  | 1, hu => obtain rfl : Value.string (strN f.all) = u := Option.some.inj hu; go_cell
  | 2, hu => obtain rfl : Value.int .i64 f.kept = u := Option.some.inj hu; go_cell
theorem del_take_yes {n : ByteArray} {L : List FileS} {j : Nat} {f : FileS} (hf : L[j]? = some f) (hn : f.name = n) : delFile n (L.take (j + 1)) = delFile n (L.take j) := by
  unfold delFile
  rw [List.take_add_one, hf, List.filter_append]
  simp [hn]
theorem del_take_no {n : ByteArray} {L : List FileS} {j : Nat} {f : FileS} (hf : L[j]? = some f) (hn : ¬ f.name = n) : delFile n (L.take (j + 1)) = delFile n (L.take j) ++ [f] := by
  unfold delFile
  rw [List.take_add_one, hf, List.filter_append]
  simp [hn]

set_option maxHeartbeats 2000000 in
set_option maxRecDepth 20000 in
theorem rwithout_any (v : Value) (D : DiskS) (n : ByteArray) (w : World) (h : RIs w v D) (hm : D.files.length ≤ 1000) : Calls Tryz.prog 80 #[v, .string n] w (RNew { D with files := delFile n D.files } w) := by
  obtain ⟨a, c, rfl, hr⟩ := h
  obtain ⟨room, L, down, armed, steps⟩ := D
  simp only at hr hm ⊢
  have HR := Lib.hid hr
  obtain ⟨m, hlm⟩ : ∃ m, L.length = m := ⟨_, rfl⟩
  have HL := Lib.hid hlm
  rw [hlm] at HR hm ⊢
  clear hr hlm
  go_enter Tryz.func80, Tryz.ntmps80
  go_wp2_with fail
  have BX := (RD.box w ⟨room, L, down, armed, steps⟩ (.slice a m c)).below ((Below.refl _ _).alloc (Nat.le_refl _) (.cells #[.int .i64 0, .slice none 0 0, .bool false, .int .i64 0, .int .u64 0] 29))
  have BZ := RD.zero (w.alloc (.cells #[.int .i64 room, .slice a m c, .bool down, .int .i64 armed, .int .u64 steps] 29))
  have hsz : (w.alloc (.cells #[.int .i64 room, .slice a m c, .bool down, .int .i64 armed, .int .u64 steps] 29)).heap.size = w.heap.size + 1 := by simp
  simp only at BX
  rw [hsz] at BZ
  have B1 : Hid (Below w.heap.size w ((w.alloc (.cells #[.int .i64 room, .slice a m c, .bool down, .int .i64 armed, .int .u64 steps] 29)).alloc (.cells #[.int .i64 0, .slice none 0 0, .bool false, .int .i64 0, .int .u64 0] 29))) := Lib.hid (((Below.refl _ _).alloc (Nat.le_refl _) _).alloc (by simp) _)
  clear hsz
  generalize World.alloc (World.alloc w _) _ = w1 at *
  have BX1 := Lib.hid BX
  have BZ1 := Lib.hid BZ
  have LZ := BZ.lt
  clear BX BZ
  go_loopw [5, 6] (fun lv i wr => ∃ j : Nat, i = .int .i64 j ∧ j ≤ m ∧ OwnR wr w1.heap.size 96 3 lv ((delFile n (L.take j)).map rfV) ∧ Below w1.heap.size w1 wr) (fun _ i _ => m - (intOf i).toNat)
  case atStart => exact ⟨0, rfl, by omega, OwnR.nil _ _ _ _, Below.refl _ _⟩
  case round =>
    obtain ⟨j, rfl, hj, hown, hb⟩ := hrel
    have OW := Lib.hid hown
    have BR := Lib.hid hb
    have BXR := Lib.hid (BX1.out.below hb)
    have BZR := Lib.hid (BZ1.out.below hb)
    have LW := hb.size
    obtain ⟨la, lc, rfl⟩ := hown.shape
    obtain ⟨ln, hln⟩ : ∃ ln, (List.map rfV (delFile n (L.take j))).length = ln := ⟨_, rfl⟩
    have HLN := Lib.hid hln
    have HLS : Hid (ln ≤ 4294967296) := Lib.hid (by rw [← hln, List.length_map]; have h1 := length_del n (L.take j); have h2 := List.length_take_le j L; omega)
    rw [hln] at OW ⊢
    clear hown hb hln
    obtain ⟨r0, r1, r2, r3, r4, f0, f1, f2, f3, f4⟩ := BXR.out
    have hlw := BXR.out.lt
    by_cases hlt : j < m
    · obtain ⟨f, hf, _⟩ := getAt (l := L) (j := j) (by rw [HL.out]; exact hlt)
      obtain ⟨b, o, rfl, hbl, c0, c1, c2⟩ := (HR.out.below (B1.out.trans (BR.out.mono B1.out.size))).file hf
      have HF := Lib.hid hf
      clear hf
      by_cases hn : f.name = n
      · have hb : (f.name.toList == n.toList) = true := by rw [str_eq]; exact decide_eq_true hn
        have HNN := Lib.hid hn
        clear hn
        go_wp2_with fail
        go_roundw
        case rel => exact ⟨j + 1, by first | rfl | go_num, by omega, by rw [del_take_yes HF.out HNN.out]; exact OW.out, BR.out⟩
        all_goals (show m - ((j : Int) + 1).toNat < m - ((j : Int)).toNat; omega)
      · have hb : (f.name.toList == n.toList) = false := by rw [str_eq]; exact decide_eq_false hn
        have HNN := Lib.hid hn
        clear hn
        have HOA : Hid (OwnR (wr.alloc (.cells #[.string f.name, .string (strN f.all), .int .i64 f.kept] 96)) w1.heap.size 96 3 (.slice la ln lc) ((delFile n (L.take j)).map rfV)) := Lib.hid (OW.out.alloc _)
        have HCE := Lib.hid (rfV_cells wr f)
        have HBS : Hid (w1.heap.size ≤ (wr.alloc (.cells #[.string f.name, .string (strN f.all), .int .i64 f.kept] 96)).heap.size) := Lib.hid (by simp; omega)
        have HLE : Hid ((List.map rfV (delFile n (L.take j))).length ≤ 4294967296) := Lib.hid (by rw [HLN.out]; exact HLS.out)
        go_wp2_with (at_builtin; refine wpList_append_row rfile3 _ _ rfl w1.heap.size _ _ _ _ rfl rfl HOA.out (rfV_len f) HCE.out (rfV_one f) HLE.out HBS.out rfl ?_; intro v2 w2 ho2 hg2 hat2 hb2; have O2 := Lib.hid ho2; have B2 := Lib.hid hb2; clear ho2 hg2 hat2 hb2)
        go_roundw
        case rel => exact ⟨j + 1, by first | rfl | go_num, by omega, by rw [del_take_no HF.out HNN.out, List.map_append]; exact O2.out, (BR.out.alloc LW _).trans B2.out⟩
        all_goals (show m - ((j : Int) + 1).toNat < m - ((j : Int)).toNat; omega)
    · obtain rfl : j = m := by omega
      obtain ⟨z0, z1, z2, z3, z4, g0, g1, g2, g3, g4⟩ := BZR.out
      have hlz := BZR.out.lt
      go_wp2_with fail
      have RF := Lib.hid ((BZR.out.kept (Kept.setCell wr ⟨w.heap.size, 1, none⟩ (.slice la ln lc)) (by simp only; omega)).set ⟨room, [], down, armed, steps⟩ (.slice la ln lc))
      have KF := (Kept.setCell wr ⟨w.heap.size, 1, none⟩ (.slice la ln lc)).andThen (Kept.set5D (wr.setCell ⟨w.heap.size, 1, none⟩ (.slice la ln lc)) (w.heap.size + 1) ⟨room, [], down, armed, steps⟩ (.slice la ln lc)) (U := fun k => w.heap.size ≤ k ∧ k < w1.heap.size) (fun k h1 h2 => by simp only at h2; omega)
      have OF := Lib.hid (OW.out.kept KF (fun g hg h => by have := (OW.out.lt g hg).1; omega))
      have BF := Lib.hid ((B1.out.trans (BR.out.mono B1.out.size)).trans (KF.below (by have := B1.out.size; have := BR.out.size; omega) (fun k h => h.1)))
      unfold set5D at RF OF BF
      clear KF
      generalize World.setCell _ _ _ = wF at *
      clear r0 r1 r2 r3 r4 f0 f1 f2 f3 f4 z0 z1 z2 z3 z4 g0 g1 g2 g3 g4
      obtain ⟨q0, q1, q2, q3, q4, _⟩ := RF.out
      simp only at q0 q1 q2 q3 q4
      have HLL : (delFile n L).length = ln := by have h := HLN.out; rw [List.length_map, List.take_of_length_le (by rw [HL.out]; exact Nat.le_refl _)] at h; exact h
      refine bodyPost_ret (v := .agg #[.int .i64 room, .slice la ln lc, .bool down, .int .i64 armed, .int .u64 steps]) (by simp [results, Tryz.results80, go_sem, q0, q1, q2, q3, q4]) rfl ?_
      unfold RNew
      simp only
      rw [HLL]
      refine ⟨la, lc, rfl, ?_, fun g hg => by have := (OF.out.lt g hg).1; have := B1.out.size; omega, BF.out⟩
      have h := SRow.of_own OF.out
      rw [List.take_of_length_le (by rw [HL.out]; exact Nat.le_refl _)] at h
      exact h
/-- Block b is a file. -/
structure RF (w : World) (b : Nat) (f : FileS) : Prop where
  c0 : w.cell? ⟨b, 0, none⟩ = some (.string f.name)
  c1 : w.cell? ⟨b, 1, none⟩ = some (.string (strN f.all))
  c2 : w.cell? ⟨b, 2, none⟩ = some (.int .i64 f.kept)
  f0 : w.frozen? ⟨b, 0, none⟩ = false
  f1 : w.frozen? ⟨b, 1, none⟩ = false
  f2 : w.frozen? ⟨b, 2, none⟩ = false
theorem RF.lt {w : World} {b : Nat} {f : FileS} (h : RF w b f) : b < w.heap.size := World.block_lt_of_cell? _ _ h.c0
theorem RF.kept {w w' : World} {b : Nat} {f : FileS} {S : Nat → Prop} (h : RF w b f) (hk : Kept w w' S) (hs : ¬ S b) : RF w' b f :=
  ⟨hk.cell h.c0 hs, hk.cell h.c1 hs, hk.cell h.c2 hs, (hk.frozen (a := ⟨b, 0, none⟩) h.lt hs).trans h.f0, (hk.frozen (a := ⟨b, 1, none⟩) h.lt hs).trans h.f1, (hk.frozen (a := ⟨b, 2, none⟩) h.lt hs).trans h.f2⟩
theorem RF.below {w w' : World} {b : Nat} {f : FileS} (h : RF w b f) (hb : Below w.heap.size w w') : RF w' b f := h.kept (Kept.of_below hb (S := fun _ => False) fun k h1 h2 => by omega) (fun h => h)
theorem RF.box (w : World) (f : FileS) : RF (w.alloc (.cells #[.string f.name, .string (strN f.all), .int .i64 f.kept] 96)) w.heap.size f := ⟨by go_cell, by go_cell, by go_cell, by simp, by simp, by simp⟩
end Go.Proofs.YtofhccpagnkalaaGreat

/- The document's disk with a file; contract; no conditions but the ranges. -/
namespace Go.Proofs.YtofhccpagnkalaaGreat
open Go.RowKit Go.Maps Go.Proofs.Own

/-- An insertion before the k-th, as far as j. -/
def insS (f : FileS) (L : List FileS) (k j : Nat) : List FileS := if j ≤ k then L.take j else L.take k ++ f :: (L.drop k).take (j - k)
theorem insS_step {f g : FileS} {L : List FileS} {k j : Nat} (hg : L[j]? = some g) (hj : j ≠ k) : insS f L k (j + 1) = insS f L k j ++ [g] := by
  unfold insS
  by_cases h : j < k
  · rw [if_pos (by omega), if_pos (by omega), List.take_add_one, hg]; rfl
  · rw [if_neg (by omega), if_neg (by omega), List.append_assoc, List.cons_append]
    have e : (L.drop k).take (j + 1 - k) = (L.drop k).take (j - k) ++ [g] := by
      rw [show j + 1 - k = (j - k) + 1 by omega, List.take_add_one, List.getElem?_drop, show k + (j - k) = j by omega, hg]; rfl
    rw [e]
theorem insS_at {f g : FileS} {L : List FileS} {k : Nat} (hg : L[k]? = some g) : insS f L k (k + 1) = (insS f L k k ++ [f]) ++ [g] := by
  unfold insS
  rw [if_neg (by omega), if_pos (Nat.le_refl _), show k + 1 - k = 0 + 1 by omega, List.take_add_one, List.getElem?_drop, Nat.add_zero, hg]
  simp
theorem length_insS (f : FileS) (L : List FileS) (k j : Nat) : (insS f L k j).length ≤ L.length + 1 := by
  unfold insS
  split
  · have := List.length_take_le' j L; omega
  · rw [List.length_append, List.length_cons, List.length_take, List.length_take, List.length_drop]; omega
theorem ins_place (f : FileS) (L : List FileS) : ∃ k, k ≤ L.length ∧ (∀ j g, j < k → L[j]? = some g → nameLt f.name g.name = false) ∧ (∀ g, L[k]? = some g → nameLt f.name g.name = true) ∧ insFile f L = L.take k ++ f :: L.drop k := by
  obtain ⟨A, B, h1, h2, h3, h4⟩ := ins_split f L
  refine ⟨A.length, by rw [h1, List.length_append]; omega, fun j g hj hg => ?_, fun g hg => ?_, ?_⟩
  · rw [h1, List.getElem?_append_left hj] at hg
    exact h3 g (List.mem_of_getElem? hg)
  · rw [h1, List.getElem?_append_right (Nat.le_refl _), Nat.sub_self] at hg
    exact h4 g (by rw [List.head?_eq_getElem?]; exact hg)
  · rw [h2, h1, List.take_left, List.drop_left]
theorem SRow.off {w w' : World} {sz : Nat} {a : Option Addr} {n c : Nat} {rs : List (List Value)} {S : Nat → Prop} {B : Nat} (h : SRow w sz (.slice a n c) rs) (hk : Kept w w' S) (hB : ∀ g, (Value.slice a n c).ownBlock = some g → B ≤ g) (hS : ∀ k, S k → k < B) : SRow w' sz (.slice a n c) rs :=
  h.kept hk (.inr fun g hg hs => by have := hB g hg; have := hS g hs; omega)

set_option maxHeartbeats 8000000 in
set_option maxRecDepth 20000 in
theorem rwith_any (a : Option Addr) (c : Nat) (D : DiskS) (f : FileS) (w : World) (hr : SRow w 3 (.slice a D.files.length c) (D.files.map rfV)) (hm : D.files.length ≤ 1000) : Calls Tryz.prog 40 #[.agg #[.int .i64 D.room, .slice a D.files.length c, .bool D.down, .int .i64 D.armed, .int .u64 D.steps], .agg #[.string f.name, .string (strN f.all), .int .i64 f.kept]] w (RNew { D with files := putFile f D.files } w) := by
  obtain ⟨room, L, down, armed, steps⟩ := D
  simp only at hr hm ⊢
  have HR := Lib.hid hr
  have HM := Lib.hid hm
  obtain ⟨m0, hlm⟩ : ∃ m, L.length = m := ⟨_, rfl⟩
  have HL := Lib.hid hlm
  rw [hlm] at HR ⊢
  clear hr hlm hm
  go_enter Tryz.func40, Tryz.ntmps40
  go_wp2_with fail
  have hX1 : (w.alloc (.cells #[.int .i64 room, .slice a m0 c, .bool down, .int .i64 armed, .int .u64 steps] 29)).heap.size = w.heap.size + 1 := by simp
  have hX2 : ((w.alloc (.cells #[.int .i64 room, .slice a m0 c, .bool down, .int .i64 armed, .int .u64 steps] 29)).alloc (.cells #[.string f.name, .string (strN f.all), .int .i64 f.kept] 96)).heap.size = w.heap.size + 1 + 1 := by simp
  have BX := ((RD.box w ⟨room, L, down, armed, steps⟩ (.slice a m0 c)).below ((Below.refl _ _).alloc (Nat.le_refl _) (.cells #[.string f.name, .string (strN f.all), .int .i64 f.kept] 96))).below ((Below.refl _ _).alloc (Nat.le_refl _) (.cells #[.int .i64 0, .slice none 0 0, .bool false, .int .i64 0, .int .u64 0] 29))
  have FB := (RF.box (w.alloc (.cells #[.int .i64 room, .slice a m0 c, .bool down, .int .i64 armed, .int .u64 steps] 29)) f).below ((Below.refl _ _).alloc (Nat.le_refl _) (.cells #[.int .i64 0, .slice none 0 0, .bool false, .int .i64 0, .int .u64 0] 29))
  have BZ := RD.zero ((w.alloc (.cells #[.int .i64 room, .slice a m0 c, .bool down, .int .i64 armed, .int .u64 steps] 29)).alloc (.cells #[.string f.name, .string (strN f.all), .int .i64 f.kept] 96))
  simp only at BX
  rw [hX1] at FB
  rw [hX2] at BZ
  have B1 : Hid (Below w.heap.size w (((w.alloc (.cells #[.int .i64 room, .slice a m0 c, .bool down, .int .i64 armed, .int .u64 steps] 29)).alloc (.cells #[.string f.name, .string (strN f.all), .int .i64 f.kept] 96)).alloc (.cells #[.int .i64 0, .slice none 0 0, .bool false, .int .i64 0, .int .u64 0] 29))) := Lib.hid ((((Below.refl _ _).alloc (Nat.le_refl _) _).alloc (by simp) _).alloc (by simp; omega) _)
  clear hX1 hX2
  generalize World.alloc (World.alloc (World.alloc w _) _) _ = w1 at *
  have BX1 := Lib.hid BX
  have FB1 := Lib.hid FB
  have BZ1 := Lib.hid BZ
  have LZ := BZ.lt
  clear BX FB BZ
  refine (rwithout_any _ ⟨room, L, down, armed, steps⟩ f.name w1 ⟨a, c, by simp only; rw [HL.out], by simp only; rw [HL.out]; exact HR.out.below B1.out⟩ HM.out).mono ?_
  rintro e wz ⟨a1, c1, rfl, hs1, hn1, hb1⟩
  simp only at hs1 hn1 ⊢
  have BXz := Lib.hid (BX1.out.below hb1)
  have FBz := Lib.hid (FB1.out.below hb1)
  have BZz := Lib.hid (BZ1.out.below hb1)
  have LLL := length_del f.name L
  generalize hL1 : delFile f.name L = L1 at *
  obtain ⟨m, hlm⟩ : ∃ m, L1.length = m := ⟨_, rfl⟩
  have HL1 := Lib.hid hlm
  have HPUT : Hid (putFile f L = insFile f L1) := Lib.hid (by unfold putFile; rw [hL1])
  rw [hlm] at hs1 hn1 LLL ⊢
  have HMM : Hid (m ≤ 1000) := Lib.hid (Nat.le_trans LLL HM.out)
  have SZ := Lib.hid hs1
  have NZ := Lib.hid hn1
  have Bz : Hid (Below w.heap.size w wz) := Lib.hid (B1.out.trans (hb1.mono B1.out.size))
  have LSZ := hb1.size
  clear hs1 hn1 hb1 hlm hL1 LLL
  obtain ⟨r0, r1, r2, r3, r4, f0, f1, f2, f3, f4⟩ := BXz.out
  have X2 := Lib.hid (BXz.out.set ⟨room, L, down, armed, steps⟩ (.slice a1 m c1))
  have KS := Kept.set5D wz w.heap.size ⟨room, L, down, armed, steps⟩ (.slice a1 m c1)
  have F2 := Lib.hid (FBz.out.kept KS (by omega))
  have Z2 := Lib.hid (BZz.out.kept KS (by omega))
  have S2 := Lib.hid (SZ.out.off KS NZ.out (fun k hk => by omega))
  have B2 := Lib.hid (Bz.out.trans (KS.below Bz.out.size (fun k hk => by omega)))
  have hs2 : (set5D wz w.heap.size ⟨room, L, down, armed, steps⟩ (.slice a1 m c1)).heap.size = wz.heap.size := by simp [set5D, World.setCell]
  have LS2 : Hid (w.heap.size + 1 + 1 < (set5D wz w.heap.size ⟨room, L, down, armed, steps⟩ (.slice a1 m c1)).heap.size) := Lib.hid (by rw [hs2]; omega)
  unfold set5D at X2 F2 Z2 S2 B2 LS2
  clear KS hs2 BXz FBz BZz
  go_wp2_with fail
  generalize World.setCell _ _ _ = w2 at *
  clear r0 r1 r2 r3 r4 f0 f1 f2 f3 f4 SZ NZ Bz LSZ BX1 FB1 BZ1 LZ
  obtain ⟨k, hk, hbef, hat, hins⟩ := ins_place f L1
  have HK := Lib.hid hk
  have HBF := Lib.hid hbef
  have HAT := Lib.hid hat
  have HINS := Lib.hid hins
  clear hk hbef hat hins
  go_loopw [5, 6, 7] (fun lv dv i wr => ∃ j : Nat, i = .int .i64 j ∧ j ≤ m ∧ dv = .bool (decide (k < j)) ∧ OwnR wr w2.heap.size 96 3 lv ((insS f L1 k j).map rfV) ∧ Below w2.heap.size w2 wr) (fun _ _ i _ => m - (intOf i).toNat)
  case atStart => exact ⟨0, rfl, by omega, by simp, (by unfold insS; rw [if_pos (Nat.zero_le _)]; exact OwnR.nil _ _ _ _), Below.refl _ _⟩
  case round =>
    obtain ⟨j, rfl, hj, rfl, hown, hb⟩ := hrel
    have OW := Lib.hid hown
    have BR := Lib.hid hb
    have BXR := Lib.hid (X2.out.below hb)
    have FBR := Lib.hid (F2.out.below hb)
    have BZR := Lib.hid (Z2.out.below hb)
    have SR := Lib.hid (S2.out.below hb)
    have LW := hb.size
    obtain ⟨la, lc, rfl⟩ := hown.shape
    obtain ⟨ln, hln⟩ : ∃ ln, (List.map rfV (insS f L1 k j)).length = ln := ⟨_, rfl⟩
    have HLN := Lib.hid hln
    have HLS : Hid (ln ≤ 100000) := Lib.hid (by rw [← hln, List.length_map]; have h1 := length_insS f L1 k j; have h2 := HL1.out; have h3 := HMM.out; omega)
    rw [hln] at OW ⊢
    clear hown hb hln
    have hm1000 : (m : Int) ≤ 1000 := by have := HMM.out; omega
    obtain ⟨r0, r1, r2, r3, r4, f0, f1, f2, f3, f4⟩ := BXR.out
    have hlw := BXR.out.lt
    by_cases hlt : j < m
    · obtain ⟨g, hf, _⟩ := getAt (l := L1) (j := j) (by rw [HL1.out]; exact hlt)
      obtain ⟨b, o, rfl, hbl, c0, c1', c2⟩ := S2.out.file hf
      have HF := Lib.hid hf
      have CC := Lib.hid (And.intro c0 (And.intro c1' c2))
      have CB := Lib.hid hbl
      clear hf c0 c1' c2 hbl
      have ST := Stable.from wr
      have y0 := Below.at BR.out CC.out.1 CB.out
      have y1 := Below.at BR.out CC.out.2.1 CB.out
      have y2 := Below.at BR.out CC.out.2.2 CB.out
      obtain ⟨r0, r1, r2, r3, r4, f0, f1, f2, f3, f4⟩ := X2.out.below BR.out
      obtain ⟨s0, s1, s2, t0, t1, t2⟩ := F2.out.below BR.out
      have hlw := (X2.out.below BR.out).lt
      have hlf := (F2.out.below BR.out).lt
      have hlb := Nat.lt_of_lt_of_le CB.out BR.out.size
      rcases Nat.lt_trichotomy j k with hjk | hjk | hjk
      · have hdk : decide (k < j) = false := decide_eq_false (by omega)
        have hl : Op.bytesLess f.name.toList g.name.toList = false := by rw [str_lt]; exact HBF.out j g hjk HF.out
        have HNE : Hid (j ≠ k) := Lib.hid (by omega)
        have HDN : Hid (decide (k < j + 1) = false) := Lib.hid (decide_eq_false (by omega))
        rw [hdk]
        clear hdk hjk
        go_wp2_with fail
        clear y0 y1 y2 r0 r1 r2 r3 r4 f0 f1 f2 f3 f4 s0 s1 s2 t0 t1 t2 hlw hlf hlb
        refine region_start [0, 1, 3, 7, 15, 7, 39, 7, 231, 487, 999, 2047, 4095] 0 (fun w' => Below wr.heap.size wr w') (by kernel_rfl) ?_
        refine stage_heads [0, 1, 2, 3, 4, 5, 6, 7, 8, 9, 10, 11, 12] (by kernel_rfl) (L := #[true, true, true, true, true, true, true, true, true, true, true, true, true]) (by kernel_rfl) (f' := 0) rfl (fun _ _ _ _ h => h) (fun w o h => ST.alloc h o) (.inr (by first | exact Below.refl _ _ | exact (Below.refl _ _).drew)) ?_
        simp only [List.flatMap_cons, List.flatMap_nil, List.drop_succ_cons, List.drop_zero, List.take_succ_cons, List.take_zero, List.cons_append, List.nil_append, List.append_nil]
        iterate 13 (first | (refine heads_load _ (by rfl) (fun w' hs => by obtain ⟨r0, r1, r2, r3, r4, _⟩ := BXR.out.below hs; obtain ⟨s0, s1, s2, _⟩ := FBR.out.below hs; have y0 := Below.at hs (Below.at BR.out CC.out.1 CB.out) (Nat.lt_of_lt_of_le CB.out BR.out.size); go_simp; try with_reducible rfl) rfl ?_; simp only [Act.put, List.setIfInBounds_toArray, List.set_cons_zero, List.set_cons_succ]) | (refine heads_pure _ (by rfl) (fun w' => by go_simp; try with_reducible rfl) ?_; simp only [Act.put, List.setIfInBounds_toArray, List.set_cons_zero, List.set_cons_succ]) | (refine heads_skip (by rfl) ?_; simp only [Act.put, List.setIfInBounds_toArray, List.set_cons_zero, List.set_cons_succ]))
        refine heads_nil ?_
        refine stage_done (by kernel_rfl) ?_
        have BQ : Hid (Below w2.heap.size w2 wr.drew) := Lib.hid BR.out.drew
        have OQ : Hid (OwnR wr.drew w2.heap.size 96 3 (.slice la ln lc) ((insS f L1 k j).map rfV)) := Lib.hid (OW.out.below ((Below.refl _ _).drew))
        have LQ : w2.heap.size ≤ wr.drew.heap.size := BQ.out.size
        generalize wr.drew = wq at *
        have y0 := Below.at BQ.out CC.out.1 CB.out
        have y1 := Below.at BQ.out CC.out.2.1 CB.out
        have y2 := Below.at BQ.out CC.out.2.2 CB.out
        obtain ⟨r0, r1, r2, r3, r4, f0, f1, f2, f3, f4⟩ := X2.out.below BQ.out
        obtain ⟨s0, s1, s2, t0, t1, t2⟩ := F2.out.below BQ.out
        have hlw := (X2.out.below BQ.out).lt
        have hlf := (F2.out.below BQ.out).lt
        have hlb := Nat.lt_of_lt_of_le CB.out BQ.out.size
        have HOA : Hid (OwnR (wq.alloc (.cells #[.string g.name, .string (strN g.all), .int .i64 g.kept] 96)) w2.heap.size 96 3 (.slice la ln lc) ((insS f L1 k j).map rfV)) := Lib.hid (OQ.out.alloc _)
        have HCE := Lib.hid (rfV_cells wq g)
        have HBS : Hid (w2.heap.size ≤ (wq.alloc (.cells #[.string g.name, .string (strN g.all), .int .i64 g.kept] 96)).heap.size) := Lib.hid (by simp; omega)
        have HLE : Hid (((insS f L1 k j).map rfV).length ≤ 4294967296) := Lib.hid (by rw [HLN.out]; have := HLS.out; omega)
        go_wp2_with (at_builtin; refine wpList_append_row rfile3 _ _ rfl w2.heap.size _ _ _ _ rfl rfl HOA.out (rfV_len g) HCE.out (rfV_one g) HLE.out HBS.out rfl ?_; intro v3 w3 ho2 hg2 hat2 hb2; have O3 : Hid (OwnR w3 w2.heap.size 96 3 v3 (((insS f L1 k j) ++ [g]).map rfV)) := Lib.hid (by rw [List.map_append]; exact ho2); have B3 := Lib.hid hb2; clear ho2 hg2 hat2 hb2; skip)
        have BR3 : Hid (Below w2.heap.size w2 w3) := Lib.hid ((BQ.out.alloc LQ _).trans B3.out)
        go_roundw
        case rel => exact ⟨j + 1, by first | rfl | go_num, by omega, by rw [HDN.out], by rw [insS_step HF.out HNE.out]; exact O3.out, BR3.out⟩
        all_goals (show m - ((j : Int) + 1).toNat < m - ((j : Int)).toNat; omega)
      · have hdk : decide (k < j) = false := decide_eq_false (by omega)
        have hl : Op.bytesLess f.name.toList g.name.toList = true := by rw [str_lt]; exact HAT.out g (hjk ▸ HF.out)
        have HNE : Hid (j = k) := Lib.hid hjk
        have HDN : Hid (decide (k < j + 1) = true) := Lib.hid (decide_eq_true (by omega))
        rw [hdk]
        clear hdk hjk
        go_wp2_with fail
        clear y0 y1 y2 r0 r1 r2 r3 r4 f0 f1 f2 f3 f4 s0 s1 s2 t0 t1 t2 hlw hlf hlb
        refine region_start [0, 1, 3, 7, 15, 7, 39, 7, 231, 487, 999, 2047, 4095] 0 (fun w' => Below wr.heap.size wr w') (by kernel_rfl) ?_
        refine stage_heads [0, 1, 2, 3, 4, 5, 6, 7, 8, 9, 10, 11, 12] (by kernel_rfl) (L := #[true, true, true, true, true, true, true, true, true, true, true, true, true]) (by kernel_rfl) (f' := 0) rfl (fun _ _ _ _ h => h) (fun w o h => ST.alloc h o) (.inr (by first | exact Below.refl _ _ | exact (Below.refl _ _).drew)) ?_
        simp only [List.flatMap_cons, List.flatMap_nil, List.drop_succ_cons, List.drop_zero, List.take_succ_cons, List.take_zero, List.cons_append, List.nil_append, List.append_nil]
        iterate 13 (first | (refine heads_load _ (by rfl) (fun w' hs => by obtain ⟨r0, r1, r2, r3, r4, _⟩ := BXR.out.below hs; obtain ⟨s0, s1, s2, _⟩ := FBR.out.below hs; have y0 := Below.at hs (Below.at BR.out CC.out.1 CB.out) (Nat.lt_of_lt_of_le CB.out BR.out.size); go_simp; try with_reducible rfl) rfl ?_; simp only [Act.put, List.setIfInBounds_toArray, List.set_cons_zero, List.set_cons_succ]) | (refine heads_pure _ (by rfl) (fun w' => by go_simp; try with_reducible rfl) ?_; simp only [Act.put, List.setIfInBounds_toArray, List.set_cons_zero, List.set_cons_succ]) | (refine heads_skip (by rfl) ?_; simp only [Act.put, List.setIfInBounds_toArray, List.set_cons_zero, List.set_cons_succ]))
        refine heads_nil ?_
        refine stage_done (by kernel_rfl) ?_
        have BQ : Hid (Below w2.heap.size w2 wr.drew) := Lib.hid BR.out.drew
        have OQ : Hid (OwnR wr.drew w2.heap.size 96 3 (.slice la ln lc) ((insS f L1 k j).map rfV)) := Lib.hid (OW.out.below ((Below.refl _ _).drew))
        have LQ : w2.heap.size ≤ wr.drew.heap.size := BQ.out.size
        generalize wr.drew = wq at *
        have y0 := Below.at BQ.out CC.out.1 CB.out
        have y1 := Below.at BQ.out CC.out.2.1 CB.out
        have y2 := Below.at BQ.out CC.out.2.2 CB.out
        obtain ⟨r0, r1, r2, r3, r4, f0, f1, f2, f3, f4⟩ := X2.out.below BQ.out
        obtain ⟨s0, s1, s2, t0, t1, t2⟩ := F2.out.below BQ.out
        have hlw := (X2.out.below BQ.out).lt
        have hlf := (F2.out.below BQ.out).lt
        have hlb := Nat.lt_of_lt_of_le CB.out BQ.out.size
        have HOA : Hid (OwnR (wq.alloc (.cells #[.string f.name, .string (strN f.all), .int .i64 f.kept] 96)) w2.heap.size 96 3 (.slice la ln lc) ((insS f L1 k j).map rfV)) := Lib.hid (OQ.out.alloc _)
        have HCE := Lib.hid (rfV_cells wq f)
        have HBS : Hid (w2.heap.size ≤ (wq.alloc (.cells #[.string f.name, .string (strN f.all), .int .i64 f.kept] 96)).heap.size) := Lib.hid (by simp; omega)
        have HLE : Hid (((insS f L1 k j).map rfV).length ≤ 4294967296) := Lib.hid (by rw [HLN.out]; have := HLS.out; omega)
        go_wp2_with (at_builtin; first | (refine wpList_append_row rfile3 _ _ rfl w2.heap.size _ _ _ _ rfl rfl HOA.out (rfV_len f) HCE.out (rfV_one f) HLE.out HBS.out rfl ?_; intro v2 w4 ho2 hg2 hat2 hb2; have O2 : Hid (OwnR w4 w2.heap.size 96 3 v2 (((insS f L1 k j) ++ [f]).map rfV)) := Lib.hid (by rw [List.map_append]; exact ho2); have B2 := Lib.hid hb2; clear ho2 hg2 hat2 hb2; have BQ2 : Hid (Below w2.heap.size w2 w4) := Lib.hid ((BQ.out.alloc LQ _).trans B2.out); have LQ2 : w2.heap.size ≤ w4.heap.size := BQ2.out.size; clear y0 y1 y2 r0 r1 r2 r3 r4 f0 f1 f2 f3 f4 s0 s1 s2 t0 t1 t2 hlw hlf hlb; have y0 := Below.at BQ2.out CC.out.1 CB.out; have y1 := Below.at BQ2.out CC.out.2.1 CB.out; have y2 := Below.at BQ2.out CC.out.2.2 CB.out; obtain ⟨r0, r1, r2, r3, r4, f0, f1, f2, f3, f4⟩ := X2.out.below BQ2.out; obtain ⟨s0, s1, s2, t0, t1, t2⟩ := F2.out.below BQ2.out; have hlw := (X2.out.below BQ2.out).lt; have hlf := (F2.out.below BQ2.out).lt; have hlb := Nat.lt_of_lt_of_le CB.out BQ2.out.size; obtain ⟨la3, lc3, rfl⟩ := O2.out.shape; obtain ⟨ln3, hln3⟩ : ∃ ln, ((insS f L1 k j ++ [f]).map rfV).length = ln := ⟨_, rfl⟩; have HLE2 : Hid (((insS f L1 k j ++ [f]).map rfV).length ≤ 4294967296) := Lib.hid (by rw [List.length_map, List.length_append, List.length_singleton, ← List.length_map (f := rfV), HLN.out]; have := HLS.out; omega); rw [hln3] at O2 ⊢; clear hln3; have HOA2 : Hid (OwnR (w4.alloc (.cells #[.string g.name, .string (strN g.all), .int .i64 g.kept] 96)) w2.heap.size 96 3 (.slice la3 ln3 lc3) ((insS f L1 k j ++ [f]).map rfV)) := Lib.hid (O2.out.alloc _); have HCE2 := Lib.hid (rfV_cells w4 g); have HBS2 : Hid (w2.heap.size ≤ (w4.alloc (.cells #[.string g.name, .string (strN g.all), .int .i64 g.kept] 96)).heap.size) := Lib.hid (by simp; omega); have HLE3 : Hid (((insS f L1 k j ++ [f]).map rfV).length ≤ 4294967296) := Lib.hid (HLE2.out)) | (refine wpList_append_row rfile3 _ _ rfl w2.heap.size _ _ _ _ rfl rfl HOA2.out (rfV_len g) HCE2.out (rfV_one g) HLE3.out HBS2.out rfl ?_; intro v3 w3 ho2 hg2 hat2 hb2; have O3 : Hid (OwnR w3 w2.heap.size 96 3 v3 (((insS f L1 k j ++ [f]) ++ [g]).map rfV)) := Lib.hid (by rw [List.map_append]; exact ho2); have B3 := Lib.hid hb2; clear ho2 hg2 hat2 hb2; skip))
        have BR3 : Hid (Below w2.heap.size w2 w3) := Lib.hid ((BQ2.out.alloc LQ2 _).trans B3.out)
        go_roundw
        case rel => exact ⟨j + 1, by first | rfl | go_num, by omega, by rw [HDN.out], by have e := HNE.out; subst e; rw [insS_at HF.out]; exact O3.out, BR3.out⟩
        all_goals (show m - ((j : Int) + 1).toNat < m - ((j : Int)).toNat; omega)
      · have hdk : decide (k < j) = true := decide_eq_true hjk
        have HNE : Hid (j ≠ k) := Lib.hid (by omega)
        have HDN : Hid (decide (k < j + 1) = true) := Lib.hid (decide_eq_true (by omega))
        rw [hdk]
        clear hdk hjk
        go_wp2_with fail
        clear y0 y1 y2 r0 r1 r2 r3 r4 f0 f1 f2 f3 f4 s0 s1 s2 t0 t1 t2 hlw hlf hlb
        refine region_start [0, 1, 3, 7, 15, 7, 39, 7, 231, 487, 999, 2047, 4095] 0 (fun w' => Below wr.heap.size wr w') (by kernel_rfl) ?_
        refine stage_heads [0, 1, 2, 3, 4, 5, 6, 7, 8, 9, 10, 11, 12] (by kernel_rfl) (L := #[true, true, true, true, true, true, true, true, true, true, true, true, true]) (by kernel_rfl) (f' := 0) rfl (fun _ _ _ _ h => h) (fun w o h => ST.alloc h o) (.inr (by first | exact Below.refl _ _ | exact (Below.refl _ _).drew)) ?_
        simp only [List.flatMap_cons, List.flatMap_nil, List.drop_succ_cons, List.drop_zero, List.take_succ_cons, List.take_zero, List.cons_append, List.nil_append, List.append_nil]
        iterate 13 (first | (refine heads_load _ (by rfl) (fun w' hs => by obtain ⟨r0, r1, r2, r3, r4, _⟩ := BXR.out.below hs; obtain ⟨s0, s1, s2, _⟩ := FBR.out.below hs; have y0 := Below.at hs (Below.at BR.out CC.out.1 CB.out) (Nat.lt_of_lt_of_le CB.out BR.out.size); go_simp; try with_reducible rfl) rfl ?_; simp only [Act.put, List.setIfInBounds_toArray, List.set_cons_zero, List.set_cons_succ]) | (refine heads_pure _ (by rfl) (fun w' => by go_simp; try with_reducible rfl) ?_; simp only [Act.put, List.setIfInBounds_toArray, List.set_cons_zero, List.set_cons_succ]) | (refine heads_skip (by rfl) ?_; simp only [Act.put, List.setIfInBounds_toArray, List.set_cons_zero, List.set_cons_succ]))
        refine heads_nil ?_
        refine stage_done (by kernel_rfl) ?_
        have BQ : Hid (Below w2.heap.size w2 wr.drew) := Lib.hid BR.out.drew
        have OQ : Hid (OwnR wr.drew w2.heap.size 96 3 (.slice la ln lc) ((insS f L1 k j).map rfV)) := Lib.hid (OW.out.below ((Below.refl _ _).drew))
        have LQ : w2.heap.size ≤ wr.drew.heap.size := BQ.out.size
        generalize wr.drew = wq at *
        have y0 := Below.at BQ.out CC.out.1 CB.out
        have y1 := Below.at BQ.out CC.out.2.1 CB.out
        have y2 := Below.at BQ.out CC.out.2.2 CB.out
        obtain ⟨r0, r1, r2, r3, r4, f0, f1, f2, f3, f4⟩ := X2.out.below BQ.out
        obtain ⟨s0, s1, s2, t0, t1, t2⟩ := F2.out.below BQ.out
        have hlw := (X2.out.below BQ.out).lt
        have hlf := (F2.out.below BQ.out).lt
        have hlb := Nat.lt_of_lt_of_le CB.out BQ.out.size
        have HOA : Hid (OwnR (wq.alloc (.cells #[.string g.name, .string (strN g.all), .int .i64 g.kept] 96)) w2.heap.size 96 3 (.slice la ln lc) ((insS f L1 k j).map rfV)) := Lib.hid (OQ.out.alloc _)
        have HCE := Lib.hid (rfV_cells wq g)
        have HBS : Hid (w2.heap.size ≤ (wq.alloc (.cells #[.string g.name, .string (strN g.all), .int .i64 g.kept] 96)).heap.size) := Lib.hid (by simp; omega)
        have HLE : Hid (((insS f L1 k j).map rfV).length ≤ 4294967296) := Lib.hid (by rw [HLN.out]; have := HLS.out; omega)
        go_wp2_with (at_builtin; refine wpList_append_row rfile3 _ _ rfl w2.heap.size _ _ _ _ rfl rfl HOA.out (rfV_len g) HCE.out (rfV_one g) HLE.out HBS.out rfl ?_; intro v3 w3 ho2 hg2 hat2 hb2; have O3 : Hid (OwnR w3 w2.heap.size 96 3 v3 (((insS f L1 k j) ++ [g]).map rfV)) := Lib.hid (by rw [List.map_append]; exact ho2); have B3 := Lib.hid hb2; clear ho2 hg2 hat2 hb2; skip)
        have BR3 : Hid (Below w2.heap.size w2 w3) := Lib.hid ((BQ.out.alloc LQ _).trans B3.out)
        go_roundw
        case rel => exact ⟨j + 1, by first | rfl | go_num, by omega, by rw [HDN.out], by rw [insS_step HF.out HNE.out]; exact O3.out, BR3.out⟩
        all_goals (show m - ((j : Int) + 1).toNat < m - ((j : Int)).toNat; omega)
    · obtain rfl : j = m := by omega
      obtain ⟨z0, z1, z2, z3, z4, g0, g1, g2, g3, g4⟩ := BZR.out
      have hlz := BZR.out.lt
      by_cases hkm : k < j
      · have hdk : decide (k < j) = true := decide_eq_true hkm
        have HEND : Hid (insFile f L1 = insS f L1 k j) := Lib.hid (by rw [HINS.out]; unfold insS; rw [if_neg (by omega), List.take_of_length_le (l := L1.drop k) (by rw [List.length_drop, HL1.out]; exact Nat.le_refl _)])
        rw [hdk]
        clear hdk
        go_wp2_with fail
        have RFF := Lib.hid ((BZR.out.kept (Kept.setCell wr ⟨w.heap.size, 1, none⟩ (.slice la ln lc)) (by simp only; omega)).set ⟨room, [], down, armed, steps⟩ (.slice la ln lc))
        have KF := (Kept.setCell wr ⟨w.heap.size, 1, none⟩ (.slice la ln lc)).andThen (Kept.set5D (wr.setCell ⟨w.heap.size, 1, none⟩ (.slice la ln lc)) (w.heap.size + 1 + 1) ⟨room, [], down, armed, steps⟩ (.slice la ln lc)) (U := fun k => w.heap.size ≤ k ∧ k < w2.heap.size) (fun k h1 h2 => by simp only at h2; have := LS2.out; omega)
        have OF := Lib.hid (OW.out.kept KF (fun g hg h => by have := (OW.out.lt g hg).1; omega))
        have BF := Lib.hid ((B2.out.trans (BR.out.mono B2.out.size)).trans (KF.below (by have := B2.out.size; have := BR.out.size; omega) (fun k h => h.1)))
        unfold set5D at RFF OF BF
        clear KF
        generalize World.setCell _ _ _ = wF at *
        clear r0 r1 r2 r3 r4 f0 f1 f2 f3 f4 z0 z1 z2 z3 z4 g0 g1 g2 g3 g4
        obtain ⟨q0, q1, q2, q3, q4, _⟩ := RFF.out
        simp only at q0 q1 q2 q3 q4
        have HLL : (putFile f L).length = ln := by rw [HPUT.out, HEND.out, ← List.length_map (f := rfV)]; exact HLN.out
        refine bodyPost_ret (v := .agg #[.int .i64 room, .slice la ln lc, .bool down, .int .i64 armed, .int .u64 steps]) (by simp [results, Tryz.results40, go_sem, q0, q1, q2, q3, q4]) rfl ?_
        unfold RNew
        simp only
        rw [HLL]
        refine ⟨la, lc, rfl, ?_, fun g hg => by have := (OF.out.lt g hg).1; have := B2.out.size; omega, BF.out⟩
        have h := SRow.of_own OF.out
        rw [HPUT.out, HEND.out]
        exact h
      · have hdk : decide (k < j) = false := decide_eq_false hkm
        have HEND : Hid (insFile f L1 = insS f L1 k j ++ [f]) := Lib.hid (by
          have e : k = j := by have := HK.out; have := HL1.out; omega
          rw [HINS.out]
          unfold insS
          rw [if_pos (by omega), e, List.take_of_length_le (by rw [HL1.out]; exact Nat.le_refl _), List.drop_of_length_le (by rw [HL1.out]; exact Nat.le_refl _)])
        rw [hdk]
        clear hdk
        obtain ⟨s0, s1, s2, t0, t1, t2⟩ := FBR.out
        have hlf := FBR.out.lt
        have HOA : Hid (OwnR (wr.alloc (.cells #[.string f.name, .string (strN f.all), .int .i64 f.kept] 96)) w2.heap.size 96 3 (.slice la ln lc) ((insS f L1 k j).map rfV)) := Lib.hid (OW.out.alloc _)
        have HCE := Lib.hid (rfV_cells wr f)
        have HBS : Hid (w2.heap.size ≤ (wr.alloc (.cells #[.string f.name, .string (strN f.all), .int .i64 f.kept] 96)).heap.size) := Lib.hid (by simp; omega)
        have HLE : Hid (((insS f L1 k j).map rfV).length ≤ 4294967296) := Lib.hid (by rw [HLN.out]; have := HLS.out; omega)
        go_wp2_with (at_builtin; refine wpList_append_row rfile3 _ _ rfl w2.heap.size _ _ _ _ rfl rfl HOA.out (rfV_len f) HCE.out (rfV_one f) HLE.out HBS.out rfl ?_; intro v3 w3 ho2 hg2 hat2 hb2; have O3 : Hid (OwnR w3 w2.heap.size 96 3 v3 ((insS f L1 k j ++ [f]).map rfV)) := Lib.hid (by rw [List.map_append]; exact ho2); have B3 := Lib.hid hb2; clear ho2 hg2 hat2 hb2; have BR3 : Hid (Below w2.heap.size w2 w3) := Lib.hid ((BR.out.alloc LW _).trans B3.out); clear r0 r1 r2 r3 r4 f0 f1 f2 f3 f4 s0 s1 s2 t0 t1 t2 z0 z1 z2 z3 z4 g0 g1 g2 g3 g4 hlw hlf hlz; obtain ⟨r0, r1, r2, r3, r4, f0, f1, f2, f3, f4⟩ := X2.out.below BR3.out; have hlw := (X2.out.below BR3.out).lt; obtain ⟨z0, z1, z2, z3, z4, g0, g1, g2, g3, g4⟩ := Z2.out.below BR3.out; have hlz := (Z2.out.below BR3.out).lt; obtain ⟨la3, lc3, rfl⟩ := O3.out.shape; obtain ⟨ln3, hln3⟩ : ∃ ln, ((insS f L1 k j ++ [f]).map rfV).length = ln := ⟨_, rfl⟩; have HLN3 := Lib.hid hln3; rw [hln3] at O3 ⊢; clear hln3)
        have RFF := Lib.hid (((Z2.out.below BR3.out).kept (Kept.setCell w3 ⟨w.heap.size, 1, none⟩ (.slice la3 ln3 lc3)) (by simp only; omega)).set ⟨room, [], down, armed, steps⟩ (.slice la3 ln3 lc3))
        have KF := (Kept.setCell w3 ⟨w.heap.size, 1, none⟩ (.slice la3 ln3 lc3)).andThen (Kept.set5D (w3.setCell ⟨w.heap.size, 1, none⟩ (.slice la3 ln3 lc3)) (w.heap.size + 1 + 1) ⟨room, [], down, armed, steps⟩ (.slice la3 ln3 lc3)) (U := fun k => w.heap.size ≤ k ∧ k < w2.heap.size) (fun k h1 h2 => by simp only at h2; have := LS2.out; omega)
        have OF := Lib.hid (O3.out.kept KF (fun g hg h => by have := (O3.out.lt g hg).1; omega))
        have BF := Lib.hid ((B2.out.trans (BR3.out.mono B2.out.size)).trans (KF.below (by have := B2.out.size; have := BR3.out.size; omega) (fun k h => h.1)))
        unfold set5D at RFF OF BF
        clear KF
        generalize World.setCell _ _ _ = wF at *
        clear r0 r1 r2 r3 r4 f0 f1 f2 f3 f4 z0 z1 z2 z3 z4 g0 g1 g2 g3 g4
        obtain ⟨q0, q1, q2, q3, q4, _⟩ := RFF.out
        simp only at q0 q1 q2 q3 q4
        have HLL : (putFile f L).length = ln3 := by rw [HPUT.out, HEND.out, ← List.length_map (f := rfV)]; exact HLN3.out
        refine bodyPost_ret (v := .agg #[.int .i64 room, .slice la3 ln3 lc3, .bool down, .int .i64 armed, .int .u64 steps]) (by simp [results, Tryz.results40, go_sem, q0, q1, q2, q3, q4]) rfl ?_
        unfold RNew
        simp only
        rw [HLL]
        refine ⟨la3, lc3, rfl, ?_, fun g hg => by have := (OF.out.lt g hg).1; have := B2.out.size; omega, BF.out⟩
        have h := SRow.of_own OF.out
        rw [HPUT.out, HEND.out]
        exact h
end Go.Proofs.YtofhccpagnkalaaGreat

/- The document's disk: Remove; contracts; no conditions but the ranges. -/
namespace Go.Proofs.YtofhccpagnkalaaGreat
open Go.RowKit Go.Maps Go.Proofs.Own

theorem RIs.new {w : World} {D : DiskS} {a : Option Addr} {n c : Nat} (hn : D.files.length = n) (h : SRow w 3 (.slice a n c) (D.files.map rfV)) : RIs w (.agg #[.int .i64 D.room, .slice a n c, .bool D.down, .int .i64 D.armed, .int .u64 D.steps]) D := by
  subst hn
  exact ⟨a, c, rfl, h⟩
theorem rwith_n (a : Option Addr) (n c : Nat) (D : DiskS) (f : FileS) (w : World) (hn : D.files.length = n) (hr : SRow w 3 (.slice a n c) (D.files.map rfV)) (hm : D.files.length ≤ 1000) : Calls Tryz.prog 40 #[.agg #[.int .i64 D.room, .slice a n c, .bool D.down, .int .i64 D.armed, .int .u64 D.steps], .agg #[.string f.name, .string (strN f.all), .int .i64 f.kept]] w (RNew { D with files := putFile f D.files } w) := by
  subst hn
  exact rwith_any a c D f w hr hm
theorem removeD_down {D : DiskS} (h : D.down = true) (n : ByteArray) : removeD D n = (D, 50) := by
  unfold removeD
  split
  · rw [if_pos h]
  · unfold fileE; rw [if_pos h]
theorem syncD_down {D : DiskS} (h : D.down = true) (n : ByteArray) : syncD D n = (D, 50) := by
  unfold syncD
  split
  · rw [if_pos h]
  · unfold fileE; rw [if_pos h]
theorem moveD_down {D : DiskS} (h : D.down = true) (n to : ByteArray) : moveD D n to = (D, 50) := by
  unfold moveD
  split
  · rw [if_pos h]
  · unfold fileE; rw [if_pos h]
theorem cutD_down {D : DiskS} (h : D.down = true) (n : ByteArray) (k : Int) : cutD D n k = (D, 50) := by
  unfold cutD
  split
  · rw [if_pos h]
  · unfold fileE; rw [if_pos h]
theorem fileE_31 {D : DiskS} {n : ByteArray} (h : D.down = false) (hf : findFile n D.files = none) : fileE D n = 31 := by unfold fileE; rw [if_neg (by rw [h]; decide), if_pos hf]
theorem stepD_eq (D : DiskS) : ∃ S : DiskS, stepD D = S ∧ S.files = D.files ∧ S.room = D.room := ⟨_, rfl, stepD_files D, stepD_room D⟩
theorem stepD_at0 {D : DiskS} (h : D.armed = 0) (hd : D.down = false) : (stepD D).down = true := (stepD_down hd).2 h

set_option maxHeartbeats 4000000 in
set_option maxRecDepth 20000 in
theorem rremove_new (v : Value) (D : DiskS) (n : ByteArray) (w : World) (h : RIs w v D) (hg : DGood D) : Calls Tryz.prog 44 #[v, .string n] w (RPostN (removeD D n) v w) := by
  obtain ⟨a, c, rfl, hr⟩ := h
  obtain ⟨room, L, down, armed, steps⟩ := D
  have HG := Lib.hid hg
  simp only at hr ⊢
  have HR := Lib.hid hr
  obtain ⟨m, hlm⟩ : ∃ m, L.length = m := ⟨_, rfl⟩
  have HL := Lib.hid hlm
  rw [hlm] at HR ⊢
  have HM : Hid (L.length ≤ 1000) := Lib.hid (by have := hg.few; simp only at this; omega)
  have HA : Hid ((0 ≤ steps ∧ steps ≤ 1000000000) ∧ -1 ≤ armed ∧ armed ≤ 9223372036854775807) := Lib.hid ⟨⟨hg.wf.steps0, hg.wf.steps1⟩, hg.wf.armed0, hg.wf.armed1⟩
  have hm1000 : (m : Int) ≤ 1000 := by have := HM.out; omega
  clear hr hlm hg
  have BX := (RD.box w ⟨room, L, down, armed, steps⟩ (.slice a m c)).below ((Below.refl _ _).alloc (Nat.le_refl _) (.cells #[.int .i64 0, .slice none 0 0, .bool false, .int .i64 0, .int .u64 0] 29))
  have BZ := RD.zero (w.alloc (.cells #[.int .i64 room, .slice a m c, .bool down, .int .i64 armed, .int .u64 steps] 29))
  have hsz : (w.alloc (.cells #[.int .i64 room, .slice a m c, .bool down, .int .i64 armed, .int .u64 steps] 29)).heap.size = w.heap.size + 1 := by simp
  simp only at BX
  rw [hsz] at BZ
  have B1 : Hid (Below w.heap.size w ((w.alloc (.cells #[.int .i64 room, .slice a m c, .bool down, .int .i64 armed, .int .u64 steps] 29)).alloc (.cells #[.int .i64 0, .slice none 0 0, .bool false, .int .i64 0, .int .u64 0] 29))) := Lib.hid (((Below.refl _ _).alloc (Nat.le_refl _) _).alloc (by simp) _)
  clear hsz
  cases down
  · go_enter Tryz.func44, Tryz.ntmps44
    go_wp2_with fail
    generalize World.alloc (World.alloc w _) _ = w1 at *
    have X1 := Lib.hid BX
    have Z1 := Lib.hid BZ
    have LZ := BZ.lt
    clear BX BZ
    refine (rfind_any _ ⟨room, L, false, armed, steps⟩ n w1 (RIs.new HL.out (HR.out.below B1.out)) HM.out).mono ?_
    rintro e w2 ⟨rfl, hb2⟩
    have X2 := Lib.hid (X1.out.below hb2)
    have Z2 := Lib.hid (Z1.out.below hb2)
    have B2 : Hid (Below w.heap.size w w2) := Lib.hid (B1.out.trans (hb2.mono B1.out.size))
    clear hb2
    cases hf : findFile n L with
    | none =>
      have HV : Hid (removeD ⟨room, L, false, armed, steps⟩ n = (⟨room, L, false, armed, steps⟩, 31)) := Lib.hid (by unfold removeD; simp only [hf]; rw [fileE_31 rfl hf])
      have hI : findI n L = -1 := findI_none.2 hf
      rw [hI]
      clear hf hI
      obtain ⟨r0, r1, r2, r3, r4, f0, f1, f2, f3, f4⟩ := X2.out
      obtain ⟨z0, z1, z2, z3, z4, g0, g1, g2, g3, g4⟩ := Z2.out
      have hlx := X2.out.lt
      have hlz := Z2.out.lt
      have RFF := Lib.hid (Z2.out.set ⟨room, [], false, armed, steps⟩ (.slice a m c))
      have BF := Lib.hid (B2.out.trans ((Kept.set5D w2 (w.heap.size + 1) ⟨room, [], false, armed, steps⟩ (.slice a m c)).below B2.out.size (fun k hk => by omega)))
      unfold set5D at RFF BF
      simp only at RFF BF
      go_wp2_with fail
      generalize (((((w2.setCell ⟨w.heap.size + 1, 0, none⟩ (.int .i64 room)).setCell ⟨w.heap.size + 1, 1, none⟩ (.slice a m c)).setCell ⟨w.heap.size + 1, 2, none⟩ (.bool false)).setCell ⟨w.heap.size + 1, 3, none⟩ (.int .i64 armed)).setCell ⟨w.heap.size + 1, 4, none⟩ (.int .u64 steps)) = wF at *
      obtain ⟨q0, q1, q2, q3, q4, _⟩ := RFF.out
      simp only at q0 q1 q2 q3 q4
      refine bodyPost_ret (v := .tuple #[.agg #[.int .i64 room, (.slice a m c), .bool false, .int .i64 armed, .int .u64 steps], .int .i64 31]) (by simp [results, Tryz.results44, go_sem, q0, q1, q2, q3, q4]) rfl ?_
      rw [HV.out]
      exact ⟨_, rfl, RIs.new (D := ⟨room, L, false, armed, steps⟩) HL.out (HR.out.below BF.out), BF.out, by first | exact fun g hg => .inl hg | (intro g hg; first | exact (F3.out g hg).imp id (fun h => by have := L3.out; omega) | (right; first | (have h5 := N6.out g hg; have h6 := L6.out; omega) | (have h5 := N5.out g hg; have h6 := L5.out; omega)))⟩
    | some fl =>
      obtain ⟨i, hI, hLi⟩ := findI_some hf
      rw [hI]
      have hi0 : ¬ (i : Int) < 0 := by omega
      have HF := Lib.hid hf
      clear hf hI hLi
      obtain ⟨r0, r1, r2, r3, r4, f0, f1, f2, f3, f4⟩ := X2.out
      obtain ⟨z0, z1, z2, z3, z4, g0, g1, g2, g3, g4⟩ := Z2.out
      have hlx := X2.out.lt
      have hlz := Z2.out.lt
      go_wp2_with fail
      clear r0 r1 r2 r3 r4 f0 f1 f2 f3 f4 z0 z1 z2 z3 z4 g0 g1 g2 g3 g4 hlx hlz
      refine (rstep_any ⟨room, L, false, armed, steps⟩ a m c w2 HA.out.1.1 HA.out.1.2 HA.out.2.1 HA.out.2.2).mono ?_
      rintro e w3 ⟨rfl, hb3⟩
      have X3 := Lib.hid (X2.out.below hb3)
      have Z3 := Lib.hid (Z2.out.below hb3)
      have B3 : Hid (Below w.heap.size w w3) := Lib.hid (B2.out.trans (hb3.mono B2.out.size))
      clear hb3
      obtain ⟨S, hS, hSf, hSr⟩ := stepD_eq ⟨room, L, false, armed, steps⟩
      simp only at hSf hSr
      rw [hS]
      have HS := Lib.hid hS
      have HSF := Lib.hid hSf
      have HSR := Lib.hid hSr
      clear hS hSf hSr
      obtain ⟨Sroom, SL, Sdown, Sarmed, Ssteps⟩ := S
      simp only at HSF HSR ⊢
      obtain rfl : L = SL := HSF.out.symm
      obtain rfl : room = Sroom := HSR.out.symm
      by_cases h0 : armed = 0
      · have hd : decide (armed ≠ 0) = false := decide_eq_false (by simpa using h0)
        have HV : Hid (removeD ⟨room, L, false, armed, steps⟩ n = (⟨room, L, Sdown, Sarmed, Ssteps⟩, 50)) := Lib.hid (by unfold removeD; simp only [HF.out]; rw [if_neg (by simp), if_pos h0, HS.out])
        rw [hd]
        clear h0
        obtain ⟨r0, r1, r2, r3, r4, f0, f1, f2, f3, f4⟩ := X3.out
        obtain ⟨z0, z1, z2, z3, z4, g0, g1, g2, g3, g4⟩ := Z3.out
        have hlx := X3.out.lt
        have hlz := Z3.out.lt
        have X4 := Lib.hid (X3.out.set ⟨room, [], Sdown, Sarmed, Ssteps⟩ (.slice a m c))
        have KS4 := Kept.set5D w3 w.heap.size ⟨room, [], Sdown, Sarmed, Ssteps⟩ (.slice a m c)
        have Z4 := Lib.hid (Z3.out.kept KS4 (by omega))
        have B4 := Lib.hid (B3.out.trans (KS4.below B3.out.size (fun k hk => by omega)))
        unfold set5D at X4 Z4 B4
        simp only at X4 Z4 B4
        clear KS4
        have RFF := Lib.hid (Z4.out.set ⟨room, [], Sdown, Sarmed, Ssteps⟩ (.slice a m c))
        have BF := Lib.hid (B4.out.trans ((Kept.set5D (((((w3.setCell ⟨w.heap.size, 0, none⟩ (.int .i64 room)).setCell ⟨w.heap.size, 1, none⟩ (.slice a m c)).setCell ⟨w.heap.size, 2, none⟩ (.bool Sdown)).setCell ⟨w.heap.size, 3, none⟩ (.int .i64 Sarmed)).setCell ⟨w.heap.size, 4, none⟩ (.int .u64 Ssteps)) (w.heap.size + 1) ⟨room, [], Sdown, Sarmed, Ssteps⟩ (.slice a m c)).below B4.out.size (fun k hk => by omega)))
        unfold set5D at RFF BF
        simp only at RFF BF
        go_wp2_with fail
        generalize ((((((((((w3.setCell ⟨w.heap.size, 0, none⟩ (.int .i64 room)).setCell ⟨w.heap.size, 1, none⟩ (.slice a m c)).setCell ⟨w.heap.size, 2, none⟩ (.bool Sdown)).setCell ⟨w.heap.size, 3, none⟩ (.int .i64 Sarmed)).setCell ⟨w.heap.size, 4, none⟩ (.int .u64 Ssteps)).setCell ⟨w.heap.size + 1, 0, none⟩ (.int .i64 room)).setCell ⟨w.heap.size + 1, 1, none⟩ (.slice a m c)).setCell ⟨w.heap.size + 1, 2, none⟩ (.bool Sdown)).setCell ⟨w.heap.size + 1, 3, none⟩ (.int .i64 Sarmed)).setCell ⟨w.heap.size + 1, 4, none⟩ (.int .u64 Ssteps)) = wF at *
        obtain ⟨q0, q1, q2, q3, q4, _⟩ := RFF.out
        simp only at q0 q1 q2 q3 q4
        refine bodyPost_ret (v := .tuple #[.agg #[.int .i64 room, (.slice a m c), .bool Sdown, .int .i64 Sarmed, .int .u64 Ssteps], .int .i64 50]) (by simp [results, Tryz.results44, go_sem, q0, q1, q2, q3, q4]) rfl ?_
        rw [HV.out]
        exact ⟨_, rfl, RIs.new (D := ⟨room, L, Sdown, Sarmed, Ssteps⟩) HL.out (HR.out.below BF.out), BF.out, by first | exact fun g hg => .inl hg | (intro g hg; first | exact (F3.out g hg).imp id (fun h => by have := L3.out; omega) | (right; first | (have h5 := N6.out g hg; have h6 := L6.out; omega) | (have h5 := N5.out g hg; have h6 := L5.out; omega)))⟩
      · have hd : decide (armed ≠ 0) = true := decide_eq_true h0
        have HV : Hid (removeD ⟨room, L, false, armed, steps⟩ n = (⟨room, delFile n L, Sdown, Sarmed, Ssteps⟩, 0)) := Lib.hid (by unfold removeD; simp only [HF.out]; rw [if_neg (by simp), if_neg h0, HS.out])
        rw [hd]
        clear h0
        obtain ⟨r0, r1, r2, r3, r4, f0, f1, f2, f3, f4⟩ := X3.out
        obtain ⟨z0, z1, z2, z3, z4, g0, g1, g2, g3, g4⟩ := Z3.out
        have hlx := X3.out.lt
        have hlz := Z3.out.lt
        have X4 := Lib.hid (X3.out.set ⟨room, [], Sdown, Sarmed, Ssteps⟩ (.slice a m c))
        have KS4 := Kept.set5D w3 w.heap.size ⟨room, [], Sdown, Sarmed, Ssteps⟩ (.slice a m c)
        have Z4 := Lib.hid (Z3.out.kept KS4 (by omega))
        have B4 := Lib.hid (B3.out.trans (KS4.below B3.out.size (fun k hk => by omega)))
        unfold set5D at X4 Z4 B4
        simp only at X4 Z4 B4
        clear KS4
        go_wp2_with fail
        generalize World.setCell _ _ _ = w4 at *
        clear r0 r1 r2 r3 r4 f0 f1 f2 f3 f4 z0 z1 z2 z3 z4 g0 g1 g2 g3 g4 hlx hlz
        refine (rwithout_any _ ⟨room, L, Sdown, Sarmed, Ssteps⟩ n w4 (RIs.new HL.out (HR.out.below B4.out)) HM.out).mono ?_
        rintro e w5 ⟨a5, c5, rfl, hs5, hn5, hb5⟩
        simp only at hs5 hn5 ⊢
        have X5 := Lib.hid (X4.out.below hb5)
        have Z5 := Lib.hid (Z4.out.below hb5)
        have B5 : Hid (Below w.heap.size w w5) := Lib.hid (B4.out.trans (hb5.mono B4.out.size))
        have S5 := Lib.hid hs5
        have N5 := Lib.hid hn5
        have L5 : Hid (w.heap.size + 1 < w4.heap.size) := Lib.hid Z4.out.lt
        obtain ⟨m5, hm5⟩ : ∃ k, (delFile n L).length = k := ⟨_, rfl⟩
        have HM5 := Lib.hid hm5
        rw [hm5] at S5 N5 ⊢
        clear hs5 hn5 hb5 hm5
        obtain ⟨r0, r1, r2, r3, r4, f0, f1, f2, f3, f4⟩ := X5.out
        obtain ⟨z0, z1, z2, z3, z4, g0, g1, g2, g3, g4⟩ := Z5.out
        have hlx := X5.out.lt
        have hlz := Z5.out.lt
        have RFF := Lib.hid (Z5.out.set ⟨room, [], Sdown, Sarmed, Ssteps⟩ (.slice a5 m5 c5))
        have BF := Lib.hid (B5.out.trans ((Kept.set5D w5 (w.heap.size + 1) ⟨room, [], Sdown, Sarmed, Ssteps⟩ (.slice a5 m5 c5)).below B5.out.size (fun k hk => by omega)))
        unfold set5D at RFF BF
        simp only at RFF BF
        go_wp2_with fail
        have S5F := S5.out.off (Kept.set5D w5 (w.heap.size + 1) ⟨room, [], Sdown, Sarmed, Ssteps⟩ (.slice a5 m5 c5)) N5.out (fun k hk => by have := L5.out; omega)
        unfold set5D at S5F
        simp only at S5F
        generalize (((((w5.setCell ⟨w.heap.size + 1, 0, none⟩ (.int .i64 room)).setCell ⟨w.heap.size + 1, 1, none⟩ (.slice a5 m5 c5)).setCell ⟨w.heap.size + 1, 2, none⟩ (.bool Sdown)).setCell ⟨w.heap.size + 1, 3, none⟩ (.int .i64 Sarmed)).setCell ⟨w.heap.size + 1, 4, none⟩ (.int .u64 Ssteps)) = wF at *
        obtain ⟨q0, q1, q2, q3, q4, _⟩ := RFF.out
        simp only at q0 q1 q2 q3 q4
        refine bodyPost_ret (v := .tuple #[.agg #[.int .i64 room, (.slice a5 m5 c5), .bool Sdown, .int .i64 Sarmed, .int .u64 Ssteps], .int .i64 0]) (by simp [results, Tryz.results44, go_sem, q0, q1, q2, q3, q4]) rfl ?_
        rw [HV.out]
        exact ⟨_, rfl, RIs.new (D := ⟨room, delFile n L, Sdown, Sarmed, Ssteps⟩) HM5.out (S5F), BF.out, by first | exact fun g hg => .inl hg | (intro g hg; first | exact (F3.out g hg).imp id (fun h => by have := L3.out; omega) | (right; first | (have h5 := N6.out g hg; have h6 := L6.out; omega) | (have h5 := N5.out g hg; have h6 := L5.out; omega)))⟩
  · have HV := Lib.hid (removeD_down (D := ⟨room, L, true, armed, steps⟩) rfl n)
    go_enter Tryz.func44, Tryz.ntmps44
    go_wp2_with fail
    clear BX BZ
    refine bodyPost_ret (v := .tuple #[.agg #[.int .i64 room, .slice a m c, .bool true, .int .i64 armed, .int .u64 steps], .int .i64 50]) (by simp [results, Tryz.results44, go_sem]) rfl ?_
    rw [HV.out]
    exact ⟨_, rfl, RIs.new (D := ⟨room, L, true, armed, steps⟩) HL.out (HR.out.below (((Below.refl _ _).alloc (Nat.le_refl _) _).alloc (by simp) _)), ((Below.refl _ _).alloc (Nat.le_refl _) _).alloc (by simp) _, by first | exact fun g hg => .inl hg | (intro g hg; first | exact (F3.out g hg).imp id (fun h => by have := L3.out; omega) | (right; first | (have h5 := N6.out g hg; have h6 := L6.out; omega) | (have h5 := N5.out g hg; have h6 := L5.out; omega)))⟩
theorem rremove_any (v : Value) (D : DiskS) (n : ByteArray) (w : World) (h : RIs w v D) (hg : DGood D) : Calls Tryz.prog 44 #[v, .string n] w (RPost (removeD D n) w) := (rremove_new v D n w h hg).mono fun _ _ h => h.post
end Go.Proofs.YtofhccpagnkalaaGreat

/- The document's disk: Sync; contracts; no conditions but the ranges. -/
namespace Go.Proofs.YtofhccpagnkalaaGreat
open Go.RowKit Go.Maps Go.Proofs.Own

set_option maxHeartbeats 4000000 in
set_option maxRecDepth 20000 in
theorem rsync_new (v : Value) (D : DiskS) (n : ByteArray) (w : World) (h : RIs w v D) (hg : DGood D) : Calls Tryz.prog 57 #[v, .string n] w (RPostN (syncD D n) v w) := by
  obtain ⟨a, c, rfl, hr⟩ := h
  obtain ⟨room, L, down, armed, steps⟩ := D
  have HG := Lib.hid hg
  simp only at hr ⊢
  have HR := Lib.hid hr
  obtain ⟨m, hlm⟩ : ∃ m, L.length = m := ⟨_, rfl⟩
  have HL := Lib.hid hlm
  rw [hlm] at HR ⊢
  have HM : Hid (L.length ≤ 1000) := Lib.hid (by have := hg.few; simp only at this; omega)
  have HA : Hid ((0 ≤ steps ∧ steps ≤ 1000000000) ∧ -1 ≤ armed ∧ armed ≤ 9223372036854775807) := Lib.hid ⟨⟨hg.wf.steps0, hg.wf.steps1⟩, hg.wf.armed0, hg.wf.armed1⟩
  have hm1000 : (m : Int) ≤ 1000 := by have := HM.out; omega
  clear hr hlm hg
  have BX := (RD.box w ⟨room, L, down, armed, steps⟩ (.slice a m c)).below ((Below.refl _ _).alloc (Nat.le_refl _) (.cells #[.int .i64 0, .slice none 0 0, .bool false, .int .i64 0, .int .u64 0] 29))
  have BZ := RD.zero (w.alloc (.cells #[.int .i64 room, .slice a m c, .bool down, .int .i64 armed, .int .u64 steps] 29))
  have hsz : (w.alloc (.cells #[.int .i64 room, .slice a m c, .bool down, .int .i64 armed, .int .u64 steps] 29)).heap.size = w.heap.size + 1 := by simp
  simp only at BX
  rw [hsz] at BZ
  have B1 : Hid (Below w.heap.size w ((w.alloc (.cells #[.int .i64 room, .slice a m c, .bool down, .int .i64 armed, .int .u64 steps] 29)).alloc (.cells #[.int .i64 0, .slice none 0 0, .bool false, .int .i64 0, .int .u64 0] 29))) := Lib.hid (((Below.refl _ _).alloc (Nat.le_refl _) _).alloc (by simp) _)
  clear hsz
  cases down
  · go_enter Tryz.func57, Tryz.ntmps57
    go_wp2_with fail
    generalize World.alloc (World.alloc w _) _ = w1 at *
    have X1 := Lib.hid BX
    have Z1 := Lib.hid BZ
    have LZ := BZ.lt
    clear BX BZ
    refine (rfind_any _ ⟨room, L, false, armed, steps⟩ n w1 (RIs.new HL.out (HR.out.below B1.out)) HM.out).mono ?_
    rintro e w2 ⟨rfl, hb2⟩
    have X2 := Lib.hid (X1.out.below hb2)
    have Z2 := Lib.hid (Z1.out.below hb2)
    have B2 : Hid (Below w.heap.size w w2) := Lib.hid (B1.out.trans (hb2.mono B1.out.size))
    clear hb2
    cases hf : findFile n L with
    | none =>
      have HV : Hid (syncD ⟨room, L, false, armed, steps⟩ n = (⟨room, L, false, armed, steps⟩, 31)) := Lib.hid (by unfold syncD; simp only [hf]; rw [fileE_31 rfl hf])
      have hI : findI n L = -1 := findI_none.2 hf
      rw [hI]
      clear hf hI
      obtain ⟨r0, r1, r2, r3, r4, f0, f1, f2, f3, f4⟩ := X2.out
      obtain ⟨z0, z1, z2, z3, z4, g0, g1, g2, g3, g4⟩ := Z2.out
      have hlx := X2.out.lt
      have hlz := Z2.out.lt
      have RFF := Lib.hid (Z2.out.set ⟨room, [], false, armed, steps⟩ (.slice a m c))
      have BF := Lib.hid (B2.out.trans ((Kept.set5D w2 (w.heap.size + 1) ⟨room, [], false, armed, steps⟩ (.slice a m c)).below B2.out.size (fun k hk => by omega)))
      unfold set5D at RFF BF
      simp only at RFF BF
      go_wp2_with fail
      generalize (((((w2.setCell ⟨w.heap.size + 1, 0, none⟩ (.int .i64 room)).setCell ⟨w.heap.size + 1, 1, none⟩ (.slice a m c)).setCell ⟨w.heap.size + 1, 2, none⟩ (.bool false)).setCell ⟨w.heap.size + 1, 3, none⟩ (.int .i64 armed)).setCell ⟨w.heap.size + 1, 4, none⟩ (.int .u64 steps)) = wF at *
      obtain ⟨q0, q1, q2, q3, q4, _⟩ := RFF.out
      simp only at q0 q1 q2 q3 q4
      refine bodyPost_ret (v := .tuple #[.agg #[.int .i64 room, (.slice a m c), .bool false, .int .i64 armed, .int .u64 steps], .int .i64 31]) (by simp [results, Tryz.results57, go_sem, q0, q1, q2, q3, q4]) rfl ?_
      rw [HV.out]
      exact ⟨_, rfl, RIs.new (D := ⟨room, L, false, armed, steps⟩) HL.out (HR.out.below BF.out), BF.out, by first | exact fun g hg => .inl hg | (intro g hg; first | exact (F3.out g hg).imp id (fun h => by have := L3.out; omega) | (right; first | (have h5 := N6.out g hg; have h6 := L6.out; omega) | (have h5 := N5.out g hg; have h6 := L5.out; omega)))⟩
    | some fl =>
      obtain ⟨i, hI, hLi⟩ := findI_some hf
      rw [hI]
      have hi0 : ¬ (i : Int) < 0 := by omega
      have HF := Lib.hid hf
      obtain ⟨b, o, rfl, hbl, k0, k1, k2⟩ := HR.out.file hLi
      have FC := Lib.hid (And.intro k0 (And.intro k1 k2))
      have FL := Lib.hid hbl
      have hbx1 : ¬ b = w.heap.size := by omega
      have hbx2 : ¬ w.heap.size = b := by omega
      have hss := size_strN fl.all
      have him : (i : Int) < (m : Int) := by have h1 := (List.getElem?_eq_some_iff.1 hLi).1; have h2 := HL.out; omega
      clear k0 k1 k2 hbl
      clear hf hI hLi
      obtain ⟨r0, r1, r2, r3, r4, f0, f1, f2, f3, f4⟩ := X2.out
      obtain ⟨z0, z1, z2, z3, z4, g0, g1, g2, g3, g4⟩ := Z2.out
      have hlx := X2.out.lt
      have hlz := Z2.out.lt
      go_wp2_with fail
      clear r0 r1 r2 r3 r4 f0 f1 f2 f3 f4 z0 z1 z2 z3 z4 g0 g1 g2 g3 g4 hlx hlz
      refine (rstep_any ⟨room, L, false, armed, steps⟩ (some ⟨b, o, none⟩) m c w2 HA.out.1.1 HA.out.1.2 HA.out.2.1 HA.out.2.2).mono ?_
      rintro e w3 ⟨rfl, hb3⟩
      have X3 := Lib.hid (X2.out.below hb3)
      have Z3 := Lib.hid (Z2.out.below hb3)
      have B3 : Hid (Below w.heap.size w w3) := Lib.hid (B2.out.trans (hb3.mono B2.out.size))
      clear hb3
      obtain ⟨S, hS, hSf, hSr⟩ := stepD_eq ⟨room, L, false, armed, steps⟩
      simp only at hSf hSr
      rw [hS]
      have HS := Lib.hid hS
      have HSF := Lib.hid hSf
      have HSR := Lib.hid hSr
      clear hS hSf hSr
      obtain ⟨Sroom, SL, Sdown, Sarmed, Ssteps⟩ := S
      simp only at HSF HSR ⊢
      obtain rfl : L = SL := HSF.out.symm
      obtain rfl : room = Sroom := HSR.out.symm
      by_cases h0 : armed = 0
      · have hd : decide (armed ≠ 0) = false := decide_eq_false (by simpa using h0)
        have HV : Hid (syncD ⟨room, L, false, armed, steps⟩ n = (⟨room, L, Sdown, Sarmed, Ssteps⟩, 50)) := Lib.hid (by unfold syncD; simp only [HF.out]; rw [if_neg (by simp), if_pos h0, HS.out])
        rw [hd]
        clear h0
        obtain ⟨r0, r1, r2, r3, r4, f0, f1, f2, f3, f4⟩ := X3.out
        obtain ⟨z0, z1, z2, z3, z4, g0, g1, g2, g3, g4⟩ := Z3.out
        have hlx := X3.out.lt
        have hlz := Z3.out.lt
        have X4 := Lib.hid (X3.out.set ⟨room, [], Sdown, Sarmed, Ssteps⟩ (.slice (some ⟨b, o, none⟩) m c))
        have KS4 := Kept.set5D w3 w.heap.size ⟨room, [], Sdown, Sarmed, Ssteps⟩ (.slice (some ⟨b, o, none⟩) m c)
        have Z4 := Lib.hid (Z3.out.kept KS4 (by omega))
        have B4 := Lib.hid (B3.out.trans (KS4.below B3.out.size (fun k hk => by omega)))
        unfold set5D at X4 Z4 B4
        simp only at X4 Z4 B4
        clear KS4
        have RFF := Lib.hid (Z4.out.set ⟨room, [], Sdown, Sarmed, Ssteps⟩ (.slice (some ⟨b, o, none⟩) m c))
        have BF := Lib.hid (B4.out.trans ((Kept.set5D (((((w3.setCell ⟨w.heap.size, 0, none⟩ (.int .i64 room)).setCell ⟨w.heap.size, 1, none⟩ (.slice (some ⟨b, o, none⟩) m c)).setCell ⟨w.heap.size, 2, none⟩ (.bool Sdown)).setCell ⟨w.heap.size, 3, none⟩ (.int .i64 Sarmed)).setCell ⟨w.heap.size, 4, none⟩ (.int .u64 Ssteps)) (w.heap.size + 1) ⟨room, [], Sdown, Sarmed, Ssteps⟩ (.slice (some ⟨b, o, none⟩) m c)).below B4.out.size (fun k hk => by omega)))
        unfold set5D at RFF BF
        simp only at RFF BF
        go_wp2_with fail
        generalize ((((((((((w3.setCell ⟨w.heap.size, 0, none⟩ (.int .i64 room)).setCell ⟨w.heap.size, 1, none⟩ (.slice (some ⟨b, o, none⟩) m c)).setCell ⟨w.heap.size, 2, none⟩ (.bool Sdown)).setCell ⟨w.heap.size, 3, none⟩ (.int .i64 Sarmed)).setCell ⟨w.heap.size, 4, none⟩ (.int .u64 Ssteps)).setCell ⟨w.heap.size + 1, 0, none⟩ (.int .i64 room)).setCell ⟨w.heap.size + 1, 1, none⟩ (.slice (some ⟨b, o, none⟩) m c)).setCell ⟨w.heap.size + 1, 2, none⟩ (.bool Sdown)).setCell ⟨w.heap.size + 1, 3, none⟩ (.int .i64 Sarmed)).setCell ⟨w.heap.size + 1, 4, none⟩ (.int .u64 Ssteps)) = wF at *
        obtain ⟨q0, q1, q2, q3, q4, _⟩ := RFF.out
        simp only at q0 q1 q2 q3 q4
        refine bodyPost_ret (v := .tuple #[.agg #[.int .i64 room, (.slice (some ⟨b, o, none⟩) m c), .bool Sdown, .int .i64 Sarmed, .int .u64 Ssteps], .int .i64 50]) (by simp [results, Tryz.results57, go_sem, q0, q1, q2, q3, q4]) rfl ?_
        rw [HV.out]
        exact ⟨_, rfl, RIs.new (D := ⟨room, L, Sdown, Sarmed, Ssteps⟩) HL.out (HR.out.below BF.out), BF.out, by first | exact fun g hg => .inl hg | (intro g hg; first | exact (F3.out g hg).imp id (fun h => by have := L3.out; omega) | (right; first | (have h5 := N6.out g hg; have h6 := L6.out; omega) | (have h5 := N5.out g hg; have h6 := L5.out; omega)))⟩
      · have hd : decide (armed ≠ 0) = true := decide_eq_true h0
        have HV : Hid (syncD ⟨room, L, false, armed, steps⟩ n = (⟨room, putFile { fl with kept := fl.all.length } L, Sdown, Sarmed, Ssteps⟩, 0)) := Lib.hid (by unfold syncD; simp only [HF.out]; rw [if_neg (by simp), if_neg h0, HS.out])
        rw [hd]
        clear h0
        obtain ⟨r0, r1, r2, r3, r4, f0, f1, f2, f3, f4⟩ := X3.out
        obtain ⟨z0, z1, z2, z3, z4, g0, g1, g2, g3, g4⟩ := Z3.out
        have hlx := X3.out.lt
        have hlz := Z3.out.lt
        have y0 := Below.at B3.out FC.out.1 FL.out
        have y1 := Below.at B3.out FC.out.2.1 FL.out
        have y2 := Below.at B3.out FC.out.2.2 FL.out
        have hyl : b < w3.heap.size := Nat.lt_of_lt_of_le FL.out B3.out.size
        have X4 := Lib.hid (X3.out.set ⟨room, [], Sdown, Sarmed, Ssteps⟩ (.slice (some ⟨b, o, none⟩) m c))
        have KS4 := Kept.set5D w3 w.heap.size ⟨room, [], Sdown, Sarmed, Ssteps⟩ (.slice (some ⟨b, o, none⟩) m c)
        have Z4 := Lib.hid (Z3.out.kept KS4 (by omega))
        have B4 := Lib.hid (B3.out.trans (KS4.below B3.out.size (fun k hk => by omega)))
        unfold set5D at X4 Z4 B4
        simp only at X4 Z4 B4
        clear KS4
        go_wp2_with fail
        have AL : Below ((((((w3.setCell ⟨w.heap.size, 0, none⟩ (.int .i64 room)).setCell ⟨w.heap.size, 1, none⟩ (.slice (some ⟨b, o, none⟩) m c)).setCell ⟨w.heap.size, 2, none⟩ (.bool Sdown)).setCell ⟨w.heap.size, 3, none⟩ (.int .i64 Sarmed)).setCell ⟨w.heap.size, 4, none⟩ (.int .u64 Ssteps))).heap.size ((((((w3.setCell ⟨w.heap.size, 0, none⟩ (.int .i64 room)).setCell ⟨w.heap.size, 1, none⟩ (.slice (some ⟨b, o, none⟩) m c)).setCell ⟨w.heap.size, 2, none⟩ (.bool Sdown)).setCell ⟨w.heap.size, 3, none⟩ (.int .i64 Sarmed)).setCell ⟨w.heap.size, 4, none⟩ (.int .u64 Ssteps))) (((((((w3.setCell ⟨w.heap.size, 0, none⟩ (.int .i64 room)).setCell ⟨w.heap.size, 1, none⟩ (.slice (some ⟨b, o, none⟩) m c)).setCell ⟨w.heap.size, 2, none⟩ (.bool Sdown)).setCell ⟨w.heap.size, 3, none⟩ (.int .i64 Sarmed)).setCell ⟨w.heap.size, 4, none⟩ (.int .u64 Ssteps))).alloc (.cells #[.string fl.name, .string (strN (fl.all)), .int .i64 (fl.all.length : Nat)] 96)) := (Below.refl _ _).alloc (Nat.le_refl _) _
        have X5 := Lib.hid (X4.out.below AL)
        have Z5 := Lib.hid (Z4.out.below AL)
        have B5 := Lib.hid (B4.out.trans (AL.mono B4.out.size))
        clear AL
        generalize World.alloc _ _ = w5 at *
        clear r0 r1 r2 r3 r4 f0 f1 f2 f3 f4 z0 z1 z2 z3 z4 g0 g1 g2 g3 g4 hlx hlz
        clear y0 y1 y2 hyl
        refine (rwith_n _ m c ⟨room, L, Sdown, Sarmed, Ssteps⟩ { fl with kept := fl.all.length } w5 HL.out (HR.out.below B5.out) HM.out).mono ?_
        rintro e w6 ⟨a5, c5, rfl, hs5, hn5, hb5⟩
        simp only at hs5 hn5 ⊢
        have X6 := Lib.hid (X5.out.below hb5)
        have Z6 := Lib.hid (Z5.out.below hb5)
        have B6 : Hid (Below w.heap.size w w6) := Lib.hid (B5.out.trans (hb5.mono B5.out.size))
        have S5 := Lib.hid hs5
        have N5 := Lib.hid hn5
        have L5 : Hid (w.heap.size + 1 < w5.heap.size) := Lib.hid Z5.out.lt
        obtain ⟨m5, hm5⟩ : ∃ k, (putFile { fl with kept := fl.all.length } L).length = k := ⟨_, rfl⟩
        have HM5 := Lib.hid hm5
        rw [hm5] at S5 N5 ⊢
        clear hs5 hn5 hb5 hm5
        obtain ⟨r0, r1, r2, r3, r4, f0, f1, f2, f3, f4⟩ := X6.out
        obtain ⟨z0, z1, z2, z3, z4, g0, g1, g2, g3, g4⟩ := Z6.out
        have hlx := X6.out.lt
        have hlz := Z6.out.lt
        have RFF := Lib.hid (Z6.out.set ⟨room, [], Sdown, Sarmed, Ssteps⟩ (.slice a5 m5 c5))
        have BF := Lib.hid (B6.out.trans ((Kept.set5D w6 (w.heap.size + 1) ⟨room, [], Sdown, Sarmed, Ssteps⟩ (.slice a5 m5 c5)).below B6.out.size (fun k hk => by omega)))
        unfold set5D at RFF BF
        simp only at RFF BF
        go_wp2_with fail
        have S5F := S5.out.off (Kept.set5D w6 (w.heap.size + 1) ⟨room, [], Sdown, Sarmed, Ssteps⟩ (.slice a5 m5 c5)) N5.out (fun k hk => by have := L5.out; omega)
        unfold set5D at S5F
        simp only at S5F
        generalize (((((w6.setCell ⟨w.heap.size + 1, 0, none⟩ (.int .i64 room)).setCell ⟨w.heap.size + 1, 1, none⟩ (.slice a5 m5 c5)).setCell ⟨w.heap.size + 1, 2, none⟩ (.bool Sdown)).setCell ⟨w.heap.size + 1, 3, none⟩ (.int .i64 Sarmed)).setCell ⟨w.heap.size + 1, 4, none⟩ (.int .u64 Ssteps)) = wF at *
        obtain ⟨q0, q1, q2, q3, q4, _⟩ := RFF.out
        simp only at q0 q1 q2 q3 q4
        refine bodyPost_ret (v := .tuple #[.agg #[.int .i64 room, (.slice a5 m5 c5), .bool Sdown, .int .i64 Sarmed, .int .u64 Ssteps], .int .i64 0]) (by simp [results, Tryz.results57, go_sem, q0, q1, q2, q3, q4]) rfl ?_
        rw [HV.out]
        exact ⟨_, rfl, RIs.new (D := ⟨room, putFile { fl with kept := fl.all.length } L, Sdown, Sarmed, Ssteps⟩) HM5.out (S5F), BF.out, by first | exact fun g hg => .inl hg | (intro g hg; first | exact (F3.out g hg).imp id (fun h => by have := L3.out; omega) | (right; first | (have h5 := N6.out g hg; have h6 := L6.out; omega) | (have h5 := N5.out g hg; have h6 := L5.out; omega)))⟩
  · go_enter Tryz.func57, Tryz.ntmps57
    go_wp2_with fail
    generalize World.alloc (World.alloc w _) _ = w1 at *
    have X1 := Lib.hid BX
    have Z1 := Lib.hid BZ
    have LZ := BZ.lt
    clear BX BZ
    refine (rfind_any _ ⟨room, L, true, armed, steps⟩ n w1 (RIs.new HL.out (HR.out.below B1.out)) HM.out).mono ?_
    rintro e w2 ⟨rfl, hb2⟩
    have X2 := Lib.hid (X1.out.below hb2)
    have Z2 := Lib.hid (Z1.out.below hb2)
    have B2 : Hid (Below w.heap.size w w2) := Lib.hid (B1.out.trans (hb2.mono B1.out.size))
    clear hb2
    have HV := Lib.hid (syncD_down (D := ⟨room, L, true, armed, steps⟩) rfl n)
    obtain ⟨r0, r1, r2, r3, r4, f0, f1, f2, f3, f4⟩ := X2.out
    obtain ⟨z0, z1, z2, z3, z4, g0, g1, g2, g3, g4⟩ := Z2.out
    have hlx := X2.out.lt
    have hlz := Z2.out.lt
    have RFF := Lib.hid (Z2.out.set ⟨room, [], true, armed, steps⟩ (.slice a m c))
    have BF := Lib.hid (B2.out.trans ((Kept.set5D w2 (w.heap.size + 1) ⟨room, [], true, armed, steps⟩ (.slice a m c)).below B2.out.size (fun k hk => by omega)))
    unfold set5D at RFF BF
    simp only at RFF BF
    go_wp2_with fail
    generalize (((((w2.setCell ⟨w.heap.size + 1, 0, none⟩ (.int .i64 room)).setCell ⟨w.heap.size + 1, 1, none⟩ (.slice a m c)).setCell ⟨w.heap.size + 1, 2, none⟩ (.bool true)).setCell ⟨w.heap.size + 1, 3, none⟩ (.int .i64 armed)).setCell ⟨w.heap.size + 1, 4, none⟩ (.int .u64 steps)) = wF at *
    obtain ⟨q0, q1, q2, q3, q4, _⟩ := RFF.out
    simp only at q0 q1 q2 q3 q4
    refine bodyPost_ret (v := .tuple #[.agg #[.int .i64 room, (.slice a m c), .bool true, .int .i64 armed, .int .u64 steps], .int .i64 50]) (by simp [results, Tryz.results57, go_sem, q0, q1, q2, q3, q4]) rfl ?_
    rw [HV.out]
    exact ⟨_, rfl, RIs.new (D := ⟨room, L, true, armed, steps⟩) HL.out (HR.out.below BF.out), BF.out, by first | exact fun g hg => .inl hg | (intro g hg; first | exact (F3.out g hg).imp id (fun h => by have := L3.out; omega) | (right; first | (have h5 := N6.out g hg; have h6 := L6.out; omega) | (have h5 := N5.out g hg; have h6 := L5.out; omega)))⟩
theorem rsync_any (v : Value) (D : DiskS) (n : ByteArray) (w : World) (h : RIs w v D) (hg : DGood D) : Calls Tryz.prog 57 #[v, .string n] w (RPost (syncD D n) w) := (rsync_new v D n w h hg).mono fun _ _ h => h.post
end Go.Proofs.YtofhccpagnkalaaGreat

/- The document's disk: Cut; contracts; no conditions but the ranges. -/
namespace Go.Proofs.YtofhccpagnkalaaGreat
open Go.RowKit Go.Maps Go.Proofs.Own

set_option maxHeartbeats 4000000 in
set_option maxRecDepth 20000 in
theorem rcut_new (v : Value) (D : DiskS) (n : ByteArray) (k : Int) (w : World) (h : RIs w v D) (hg : DGood D) (hsm : ∀ fl ∈ D.files, fl.all.length ≤ 2097152) : Calls Tryz.prog 56 #[v, .string n, .int .i64 k] w (RPostN (cutD D n k) v w) := by
  obtain ⟨a, c, rfl, hr⟩ := h
  obtain ⟨room, L, down, armed, steps⟩ := D
  have HG := Lib.hid hg
  simp only at hr hsm ⊢
  have HR := Lib.hid hr
  obtain ⟨m, hlm⟩ : ∃ m, L.length = m := ⟨_, rfl⟩
  have HL := Lib.hid hlm
  rw [hlm] at HR ⊢
  have HM : Hid (L.length ≤ 1000) := Lib.hid (by have := hg.few; simp only at this; omega)
  have HA : Hid ((0 ≤ steps ∧ steps ≤ 1000000000) ∧ -1 ≤ armed ∧ armed ≤ 9223372036854775807) := Lib.hid ⟨⟨hg.wf.steps0, hg.wf.steps1⟩, hg.wf.armed0, hg.wf.armed1⟩
  have hm1000 : (m : Int) ≤ 1000 := by have := HM.out; omega
  clear hr hlm hg
  have BX := (RD.box w ⟨room, L, down, armed, steps⟩ (.slice a m c)).below ((Below.refl _ _).alloc (Nat.le_refl _) (.cells #[.int .i64 0, .slice none 0 0, .bool false, .int .i64 0, .int .u64 0] 29))
  have BZ := RD.zero (w.alloc (.cells #[.int .i64 room, .slice a m c, .bool down, .int .i64 armed, .int .u64 steps] 29))
  have hsz : (w.alloc (.cells #[.int .i64 room, .slice a m c, .bool down, .int .i64 armed, .int .u64 steps] 29)).heap.size = w.heap.size + 1 := by simp
  simp only at BX
  rw [hsz] at BZ
  have B1 : Hid (Below w.heap.size w ((w.alloc (.cells #[.int .i64 room, .slice a m c, .bool down, .int .i64 armed, .int .u64 steps] 29)).alloc (.cells #[.int .i64 0, .slice none 0 0, .bool false, .int .i64 0, .int .u64 0] 29))) := Lib.hid (((Below.refl _ _).alloc (Nat.le_refl _) _).alloc (by simp) _)
  clear hsz
  cases down
  · go_enter Tryz.func56, Tryz.ntmps56
    go_wp2_with fail
    generalize World.alloc (World.alloc w _) _ = w1 at *
    have X1 := Lib.hid BX
    have Z1 := Lib.hid BZ
    have LZ := BZ.lt
    clear BX BZ
    refine (rfind_any _ ⟨room, L, false, armed, steps⟩ n w1 (RIs.new HL.out (HR.out.below B1.out)) HM.out).mono ?_
    rintro e w2 ⟨rfl, hb2⟩
    have X2 := Lib.hid (X1.out.below hb2)
    have Z2 := Lib.hid (Z1.out.below hb2)
    have B2 : Hid (Below w.heap.size w w2) := Lib.hid (B1.out.trans (hb2.mono B1.out.size))
    clear hb2
    cases hf : findFile n L with
    | none =>
      have HV : Hid (cutD ⟨room, L, false, armed, steps⟩ n k = (⟨room, L, false, armed, steps⟩, 31)) := Lib.hid (by unfold cutD; simp only [hf]; rw [fileE_31 rfl hf])
      have hI : findI n L = -1 := findI_none.2 hf
      rw [hI]
      clear hf hI
      obtain ⟨r0, r1, r2, r3, r4, f0, f1, f2, f3, f4⟩ := X2.out
      obtain ⟨z0, z1, z2, z3, z4, g0, g1, g2, g3, g4⟩ := Z2.out
      have hlx := X2.out.lt
      have hlz := Z2.out.lt
      have RFF := Lib.hid (Z2.out.set ⟨room, [], false, armed, steps⟩ (.slice a m c))
      have BF := Lib.hid (B2.out.trans ((Kept.set5D w2 (w.heap.size + 1) ⟨room, [], false, armed, steps⟩ (.slice a m c)).below B2.out.size (fun k hk => by omega)))
      unfold set5D at RFF BF
      simp only at RFF BF
      go_wp2_with fail
      generalize (((((w2.setCell ⟨w.heap.size + 1, 0, none⟩ (.int .i64 room)).setCell ⟨w.heap.size + 1, 1, none⟩ (.slice a m c)).setCell ⟨w.heap.size + 1, 2, none⟩ (.bool false)).setCell ⟨w.heap.size + 1, 3, none⟩ (.int .i64 armed)).setCell ⟨w.heap.size + 1, 4, none⟩ (.int .u64 steps)) = wF at *
      obtain ⟨q0, q1, q2, q3, q4, _⟩ := RFF.out
      simp only at q0 q1 q2 q3 q4
      refine bodyPost_ret (v := .tuple #[.agg #[.int .i64 room, (.slice a m c), .bool false, .int .i64 armed, .int .u64 steps], .int .i64 31]) (by simp [results, Tryz.results56, go_sem, q0, q1, q2, q3, q4]) rfl ?_
      rw [HV.out]
      exact ⟨_, rfl, RIs.new (D := ⟨room, L, false, armed, steps⟩) HL.out (HR.out.below BF.out), BF.out, by first | exact fun g hg => .inl hg | (intro g hg; first | exact (F3.out g hg).imp id (fun h => by have := L3.out; omega) | (right; first | (have h5 := N6.out g hg; have h6 := L6.out; omega) | (have h5 := N5.out g hg; have h6 := L5.out; omega)))⟩
    | some fl =>
      obtain ⟨i, hI, hLi⟩ := findI_some hf
      rw [hI]
      have hi0 : ¬ (i : Int) < 0 := by omega
      have HF := Lib.hid hf
      have hfs := hsm fl (List.mem_of_getElem? hLi)
      obtain ⟨b, o, rfl, hbl, k0, k1, k2⟩ := HR.out.file hLi
      have FC := Lib.hid (And.intro k0 (And.intro k1 k2))
      have FL := Lib.hid hbl
      have hbx1 : ¬ b = w.heap.size := by omega
      have hbx2 : ¬ w.heap.size = b := by omega
      have hss := size_strN fl.all
      have him : (i : Int) < (m : Int) := by have h1 := (List.getElem?_eq_some_iff.1 hLi).1; have h2 := HL.out; omega
      clear k0 k1 k2 hbl
      clear hf hI hLi
      obtain ⟨r0, r1, r2, r3, r4, f0, f1, f2, f3, f4⟩ := X2.out
      obtain ⟨z0, z1, z2, z3, z4, g0, g1, g2, g3, g4⟩ := Z2.out
      have hlx := X2.out.lt
      have hlz := Z2.out.lt
      have y0 := Below.at B2.out FC.out.1 FL.out
      have y1 := Below.at B2.out FC.out.2.1 FL.out
      have y2 := Below.at B2.out FC.out.2.2 FL.out
      have hyl : b < w2.heap.size := Nat.lt_of_lt_of_le FL.out B2.out.size
      by_cases hk : k < 0 ∨ (fl.all.length : Int) < k
      · have HV : Hid (cutD ⟨room, L, false, armed, steps⟩ n k = (⟨room, L, false, armed, steps⟩, 2)) := Lib.hid (by unfold cutD; simp only [HF.out]; rw [if_neg (by simp), if_pos hk])
        by_cases hkn : k < 0
        · have RFF := Lib.hid (Z2.out.set ⟨room, [], false, armed, steps⟩ (.slice (some ⟨b, o, none⟩) m c))
          have BF := Lib.hid (B2.out.trans ((Kept.set5D w2 (w.heap.size + 1) ⟨room, [], false, armed, steps⟩ (.slice (some ⟨b, o, none⟩) m c)).below B2.out.size (fun k hk => by omega)))
          have RFG := Lib.hid (RFF.out.below ((Below.refl _ _).alloc (Nat.le_refl _) (.cells #[.string fl.name, .string (strN fl.all), .int .i64 fl.kept] 96)))
          have BG := Lib.hid (BF.out.alloc BF.out.size (.cells #[.string fl.name, .string (strN fl.all), .int .i64 fl.kept] 96))
          unfold set5D at RFG BG
          simp only at RFG BG
          go_wp2_with fail
          generalize World.alloc _ _ = wF at *
          obtain ⟨q0, q1, q2, q3, q4, _⟩ := RFG.out
          simp only at q0 q1 q2 q3 q4
          refine bodyPost_ret (v := .tuple #[.agg #[.int .i64 room, (.slice (some ⟨b, o, none⟩) m c), .bool false, .int .i64 armed, .int .u64 steps], .int .i64 2]) (by simp [results, Tryz.results56, go_sem, q0, q1, q2, q3, q4]) rfl ?_
          rw [HV.out]
          exact ⟨_, rfl, RIs.new (D := ⟨room, L, false, armed, steps⟩) HL.out (HR.out.below BG.out), BG.out, by first | exact fun g hg => .inl hg | (intro g hg; first | exact (F3.out g hg).imp id (fun h => by have := L3.out; omega) | (right; first | (have h5 := N6.out g hg; have h6 := L6.out; omega) | (have h5 := N5.out g hg; have h6 := L5.out; omega)))⟩
        · have hkl : (fl.all.length : Int) < k := hk.resolve_left hkn
          have RFF := Lib.hid (Z2.out.set ⟨room, [], false, armed, steps⟩ (.slice (some ⟨b, o, none⟩) m c))
          have BF := Lib.hid (B2.out.trans ((Kept.set5D w2 (w.heap.size + 1) ⟨room, [], false, armed, steps⟩ (.slice (some ⟨b, o, none⟩) m c)).below B2.out.size (fun k hk => by omega)))
          have RFG := Lib.hid (RFF.out.below ((Below.refl _ _).alloc (Nat.le_refl _) (.cells #[.string fl.name, .string (strN fl.all), .int .i64 fl.kept] 96)))
          have BG := Lib.hid (BF.out.alloc BF.out.size (.cells #[.string fl.name, .string (strN fl.all), .int .i64 fl.kept] 96))
          unfold set5D at RFG BG
          simp only at RFG BG
          go_wp2_with fail
          generalize World.alloc _ _ = wF at *
          obtain ⟨q0, q1, q2, q3, q4, _⟩ := RFG.out
          simp only at q0 q1 q2 q3 q4
          refine bodyPost_ret (v := .tuple #[.agg #[.int .i64 room, (.slice (some ⟨b, o, none⟩) m c), .bool false, .int .i64 armed, .int .u64 steps], .int .i64 2]) (by simp [results, Tryz.results56, go_sem, q0, q1, q2, q3, q4]) rfl ?_
          rw [HV.out]
          exact ⟨_, rfl, RIs.new (D := ⟨room, L, false, armed, steps⟩) HL.out (HR.out.below BG.out), BG.out, by first | exact fun g hg => .inl hg | (intro g hg; first | exact (F3.out g hg).imp id (fun h => by have := L3.out; omega) | (right; first | (have h5 := N6.out g hg; have h6 := L6.out; omega) | (have h5 := N5.out g hg; have h6 := L5.out; omega)))⟩
      · obtain ⟨kn, rfl⟩ : ∃ kn : Nat, k = kn := ⟨k.toNat, by omega⟩
        have hex := strN_take fl.all kn
        have hk0 : ¬ (kn : Int) < 0 := by omega
        have hk1 : (kn : Int) ≤ (fl.all.length : Int) := by omega
        have hk2 : ¬ (fl.all.length : Int) < (kn : Int) := by omega
        have hk2' : kn ≤ fl.all.length := by omega
        have HKK := Lib.hid hk
        clear hk
        go_wp2_with fail
        have QB := RF.box w2 fl
        have AL : Below (w2).heap.size (w2) ((w2).alloc (.cells #[.string fl.name, .string (strN (fl.all)), .int .i64 (fl.kept : Nat)] 96)) := (Below.refl _ _).alloc (Nat.le_refl _) _
        have X3 := Lib.hid (X2.out.below AL)
        have Z3 := Lib.hid (Z2.out.below AL)
        have B3 := Lib.hid (B2.out.trans (AL.mono B2.out.size))
        clear AL
        generalize World.alloc _ _ = w3 at *
        have Q3 := Lib.hid QB
        clear QB
        have hbf0 : w.heap.size + 1 < w2.heap.size := Z2.out.lt
        generalize w2.heap.size = bf at *
        clear r0 r1 r2 r3 r4 f0 f1 f2 f3 f4 z0 z1 z2 z3 z4 g0 g1 g2 g3 g4 hlx hlz
        clear y0 y1 y2 hyl
        refine (rstep_any ⟨room, L, false, armed, steps⟩ (some ⟨b, o, none⟩) m c w3 HA.out.1.1 HA.out.1.2 HA.out.2.1 HA.out.2.2).mono ?_
        rintro e w4 ⟨rfl, hb4⟩
        have X4 := Lib.hid (X3.out.below hb4)
        have Z4 := Lib.hid (Z3.out.below hb4)
        have B4 : Hid (Below w.heap.size w w4) := Lib.hid (B3.out.trans (hb4.mono B3.out.size))
        have Q4 := Lib.hid (Q3.out.below hb4)
        clear hb4
        obtain ⟨S, hS, hSf, hSr⟩ := stepD_eq ⟨room, L, false, armed, steps⟩
        simp only at hSf hSr
        rw [hS]
        have HS := Lib.hid hS
        have HSF := Lib.hid hSf
        have HSR := Lib.hid hSr
        clear hS hSf hSr
        obtain ⟨Sroom, SL, Sdown, Sarmed, Ssteps⟩ := S
        simp only at HSF HSR ⊢
        obtain rfl : L = SL := HSF.out.symm
        obtain rfl : room = Sroom := HSR.out.symm
        by_cases h0 : armed = 0
        · have hd : decide (armed ≠ 0) = false := decide_eq_false (by simpa using h0)
          have HV : Hid (cutD ⟨room, L, false, armed, steps⟩ n kn = (⟨room, L, Sdown, Sarmed, Ssteps⟩, 50)) := Lib.hid (by unfold cutD; simp only [HF.out]; rw [if_neg (by simp), if_neg HKK.out, if_pos h0, HS.out])
          rw [hd]
          clear h0
          obtain ⟨r0, r1, r2, r3, r4, f0, f1, f2, f3, f4⟩ := X4.out
          obtain ⟨z0, z1, z2, z3, z4, g0, g1, g2, g3, g4⟩ := Z4.out
          have hlx := X4.out.lt
          have hlz := Z4.out.lt
          have X5 := Lib.hid (X4.out.set ⟨room, [], Sdown, Sarmed, Ssteps⟩ (.slice (some ⟨b, o, none⟩) m c))
          have KS5 := Kept.set5D w4 w.heap.size ⟨room, [], Sdown, Sarmed, Ssteps⟩ (.slice (some ⟨b, o, none⟩) m c)
          have Z5 := Lib.hid (Z4.out.kept KS5 (by omega))
          have B5 := Lib.hid (B4.out.trans (KS5.below B4.out.size (fun k hk => by omega)))
          unfold set5D at X5 Z5 B5
          simp only at X5 Z5 B5
          clear KS5
          have RFF := Lib.hid (Z5.out.set ⟨room, [], Sdown, Sarmed, Ssteps⟩ (.slice (some ⟨b, o, none⟩) m c))
          have BF := Lib.hid (B5.out.trans ((Kept.set5D (((((w4.setCell ⟨w.heap.size, 0, none⟩ (.int .i64 room)).setCell ⟨w.heap.size, 1, none⟩ (.slice (some ⟨b, o, none⟩) m c)).setCell ⟨w.heap.size, 2, none⟩ (.bool Sdown)).setCell ⟨w.heap.size, 3, none⟩ (.int .i64 Sarmed)).setCell ⟨w.heap.size, 4, none⟩ (.int .u64 Ssteps)) (w.heap.size + 1) ⟨room, [], Sdown, Sarmed, Ssteps⟩ (.slice (some ⟨b, o, none⟩) m c)).below B5.out.size (fun k hk => by omega)))
          unfold set5D at RFF BF
          simp only at RFF BF
          go_wp2_with fail
          generalize ((((((((((w4.setCell ⟨w.heap.size, 0, none⟩ (.int .i64 room)).setCell ⟨w.heap.size, 1, none⟩ (.slice (some ⟨b, o, none⟩) m c)).setCell ⟨w.heap.size, 2, none⟩ (.bool Sdown)).setCell ⟨w.heap.size, 3, none⟩ (.int .i64 Sarmed)).setCell ⟨w.heap.size, 4, none⟩ (.int .u64 Ssteps)).setCell ⟨w.heap.size + 1, 0, none⟩ (.int .i64 room)).setCell ⟨w.heap.size + 1, 1, none⟩ (.slice (some ⟨b, o, none⟩) m c)).setCell ⟨w.heap.size + 1, 2, none⟩ (.bool Sdown)).setCell ⟨w.heap.size + 1, 3, none⟩ (.int .i64 Sarmed)).setCell ⟨w.heap.size + 1, 4, none⟩ (.int .u64 Ssteps)) = wF at *
          obtain ⟨q0, q1, q2, q3, q4, _⟩ := RFF.out
          simp only at q0 q1 q2 q3 q4
          refine bodyPost_ret (v := .tuple #[.agg #[.int .i64 room, (.slice (some ⟨b, o, none⟩) m c), .bool Sdown, .int .i64 Sarmed, .int .u64 Ssteps], .int .i64 50]) (by simp [results, Tryz.results56, go_sem, q0, q1, q2, q3, q4]) rfl ?_
          rw [HV.out]
          exact ⟨_, rfl, RIs.new (D := ⟨room, L, Sdown, Sarmed, Ssteps⟩) HL.out (HR.out.below BF.out), BF.out, by first | exact fun g hg => .inl hg | (intro g hg; first | exact (F3.out g hg).imp id (fun h => by have := L3.out; omega) | (right; first | (have h5 := N6.out g hg; have h6 := L6.out; omega) | (have h5 := N5.out g hg; have h6 := L5.out; omega)))⟩
        · have hd : decide (armed ≠ 0) = true := decide_eq_true h0
          have HV : Hid (cutD ⟨room, L, false, armed, steps⟩ n kn = (⟨room, (putFile ⟨fl.name, fl.all.take kn, min fl.kept kn⟩ L), Sdown, Sarmed, Ssteps⟩, 0)) := Lib.hid (by unfold cutD; simp only [HF.out]; rw [if_neg (by simp), if_neg HKK.out, if_neg h0, HS.out, Int.toNat_natCast])
          rw [hd]
          clear h0
          obtain ⟨r0, r1, r2, r3, r4, f0, f1, f2, f3, f4⟩ := X4.out
          obtain ⟨z0, z1, z2, z3, z4, g0, g1, g2, g3, g4⟩ := Z4.out
          have hlx := X4.out.lt
          have hlz := Z4.out.lt
          have y0 := Below.at B4.out FC.out.1 FL.out
          have y1 := Below.at B4.out FC.out.2.1 FL.out
          have y2 := Below.at B4.out FC.out.2.2 FL.out
          have hyl : b < w4.heap.size := Nat.lt_of_lt_of_le FL.out B4.out.size
          obtain ⟨s0, s1, s2, t0, t1, t2⟩ := Q4.out
          have hlq := Q4.out.lt
          have X5 := Lib.hid (X4.out.set ⟨room, [], Sdown, Sarmed, Ssteps⟩ (.slice (some ⟨b, o, none⟩) m c))
          have KS5 := Kept.set5D w4 w.heap.size ⟨room, [], Sdown, Sarmed, Ssteps⟩ (.slice (some ⟨b, o, none⟩) m c)
          have Z5 := Lib.hid (Z4.out.kept KS5 (by omega))
          have B5 := Lib.hid (B4.out.trans (KS5.below B4.out.size (fun k hk => by omega)))
          unfold set5D at X5 Z5 B5
          simp only at X5 Z5 B5
          clear KS5
          by_cases hkk : kn < fl.kept
          · have HK := Lib.hid hkk
            have hkb : (kn : Int) < (fl.kept : Int) := by omega
            have K6a := Kept.setCell ((((((w4.setCell ⟨w.heap.size, 0, none⟩ (.int .i64 room)).setCell ⟨w.heap.size, 1, none⟩ (.slice (some ⟨b, o, none⟩) m c)).setCell ⟨w.heap.size, 2, none⟩ (.bool Sdown)).setCell ⟨w.heap.size, 3, none⟩ (.int .i64 Sarmed)).setCell ⟨w.heap.size, 4, none⟩ (.int .u64 Ssteps))) ⟨bf, 1, none⟩ (.string (strN (fl.all.take kn)))
            have X6a := X5.out.kept K6a (by simp only; omega)
            have Z6a := Z5.out.kept K6a (by simp only; omega)
            have B6a := B5.out.trans (K6a.below B5.out.size (fun k hk => by simp only at hk; omega))
            have K6b := Kept.setCell (((((((w4.setCell ⟨w.heap.size, 0, none⟩ (.int .i64 room)).setCell ⟨w.heap.size, 1, none⟩ (.slice (some ⟨b, o, none⟩) m c)).setCell ⟨w.heap.size, 2, none⟩ (.bool Sdown)).setCell ⟨w.heap.size, 3, none⟩ (.int .i64 Sarmed)).setCell ⟨w.heap.size, 4, none⟩ (.int .u64 Ssteps))).setCell ⟨bf, 1, none⟩ (.string (strN (fl.all.take kn)))) ⟨bf, 2, none⟩ (.int .i64 (kn : Nat))
            have X6 := Lib.hid (X6a.kept K6b (by simp only; omega))
            have Z6 := Lib.hid (Z6a.kept K6b (by simp only; omega))
            have B6 := Lib.hid (B6a.trans (K6b.below B6a.size (fun k hk => by simp only at hk; omega)))
            clear K6b
            clear K6a X6a Z6a B6a
            go_wp2_with fail
            generalize (((((((w4.setCell ⟨w.heap.size, 0, none⟩ (.int .i64 room)).setCell ⟨w.heap.size, 1, none⟩ (.slice (some ⟨b, o, none⟩) m c)).setCell ⟨w.heap.size, 2, none⟩ (.bool Sdown)).setCell ⟨w.heap.size, 3, none⟩ (.int .i64 Sarmed)).setCell ⟨w.heap.size, 4, none⟩ (.int .u64 Ssteps))).setCell ⟨bf, 1, none⟩ (.string (strN (fl.all.take kn)))).setCell ⟨bf, 2, none⟩ (.int .i64 (kn : Nat)) = w6 at *
            clear r0 r1 r2 r3 r4 f0 f1 f2 f3 f4 z0 z1 z2 z3 z4 g0 g1 g2 g3 g4 hlx hlz
            clear y0 y1 y2 hyl
            clear s0 s1 s2 t0 t1 t2 hlq
            refine (rwith_n _ m c ⟨room, L, Sdown, Sarmed, Ssteps⟩ ⟨fl.name, fl.all.take kn, kn⟩ w6 HL.out (HR.out.below B6.out) HM.out).mono ?_
            rw [show (⟨fl.name, fl.all.take kn, kn⟩ : FileS) = ⟨fl.name, fl.all.take kn, min fl.kept kn⟩ by rw [Nat.min_eq_right (Nat.le_of_lt HK.out)]]
            rintro e w7 ⟨a5, c5, rfl, hs5, hn5, hb5⟩
            simp only at hs5 hn5 ⊢
            have X7 := Lib.hid (X6.out.below hb5)
            have Z7 := Lib.hid (Z6.out.below hb5)
            have B7 : Hid (Below w.heap.size w w7) := Lib.hid (B6.out.trans (hb5.mono B6.out.size))
            have S5 := Lib.hid hs5
            have N5 := Lib.hid hn5
            have L5 : Hid (w.heap.size + 1 < w6.heap.size) := Lib.hid Z6.out.lt
            obtain ⟨m5, hm5⟩ : ∃ k, ((putFile ⟨fl.name, fl.all.take kn, min fl.kept kn⟩ L)).length = k := ⟨_, rfl⟩
            have HM5 := Lib.hid hm5
            rw [hm5] at S5 N5 ⊢
            clear hs5 hn5 hb5 hm5
            obtain ⟨r0, r1, r2, r3, r4, f0, f1, f2, f3, f4⟩ := X7.out
            obtain ⟨z0, z1, z2, z3, z4, g0, g1, g2, g3, g4⟩ := Z7.out
            have hlx := X7.out.lt
            have hlz := Z7.out.lt
            have RFF := Lib.hid (Z7.out.set ⟨room, [], Sdown, Sarmed, Ssteps⟩ (.slice a5 m5 c5))
            have BF := Lib.hid (B7.out.trans ((Kept.set5D w7 (w.heap.size + 1) ⟨room, [], Sdown, Sarmed, Ssteps⟩ (.slice a5 m5 c5)).below B7.out.size (fun k hk => by omega)))
            unfold set5D at RFF BF
            simp only at RFF BF
            go_wp2_with fail
            have S5F := S5.out.off (Kept.set5D w7 (w.heap.size + 1) ⟨room, [], Sdown, Sarmed, Ssteps⟩ (.slice a5 m5 c5)) N5.out (fun k hk => by have := L5.out; omega)
            unfold set5D at S5F
            simp only at S5F
            generalize (((((w7.setCell ⟨w.heap.size + 1, 0, none⟩ (.int .i64 room)).setCell ⟨w.heap.size + 1, 1, none⟩ (.slice a5 m5 c5)).setCell ⟨w.heap.size + 1, 2, none⟩ (.bool Sdown)).setCell ⟨w.heap.size + 1, 3, none⟩ (.int .i64 Sarmed)).setCell ⟨w.heap.size + 1, 4, none⟩ (.int .u64 Ssteps)) = wF at *
            obtain ⟨q0, q1, q2, q3, q4, _⟩ := RFF.out
            simp only at q0 q1 q2 q3 q4
            refine bodyPost_ret (v := .tuple #[.agg #[.int .i64 room, (.slice a5 m5 c5), .bool Sdown, .int .i64 Sarmed, .int .u64 Ssteps], .int .i64 0]) (by simp [results, Tryz.results56, go_sem, q0, q1, q2, q3, q4]) rfl ?_
            rw [HV.out]
            exact ⟨_, rfl, RIs.new (D := ⟨room, (putFile ⟨fl.name, fl.all.take kn, min fl.kept kn⟩ L), Sdown, Sarmed, Ssteps⟩) HM5.out (S5F), BF.out, by first | exact fun g hg => .inl hg | (intro g hg; first | exact (F3.out g hg).imp id (fun h => by have := L3.out; omega) | (right; first | (have h5 := N6.out g hg; have h6 := L6.out; omega) | (have h5 := N5.out g hg; have h6 := L5.out; omega)))⟩
          · have HK := Lib.hid hkk
            have hkb : ¬ (kn : Int) < (fl.kept : Int) := by omega
            have K6a := Kept.setCell ((((((w4.setCell ⟨w.heap.size, 0, none⟩ (.int .i64 room)).setCell ⟨w.heap.size, 1, none⟩ (.slice (some ⟨b, o, none⟩) m c)).setCell ⟨w.heap.size, 2, none⟩ (.bool Sdown)).setCell ⟨w.heap.size, 3, none⟩ (.int .i64 Sarmed)).setCell ⟨w.heap.size, 4, none⟩ (.int .u64 Ssteps))) ⟨bf, 1, none⟩ (.string (strN (fl.all.take kn)))
            have X6a := X5.out.kept K6a (by simp only; omega)
            have Z6a := Z5.out.kept K6a (by simp only; omega)
            have B6a := B5.out.trans (K6a.below B5.out.size (fun k hk => by simp only at hk; omega))
            have X6 := Lib.hid X6a
            have Z6 := Lib.hid Z6a
            have B6 := Lib.hid B6a
            clear K6a X6a Z6a B6a
            go_wp2_with fail
            generalize ((((((w4.setCell ⟨w.heap.size, 0, none⟩ (.int .i64 room)).setCell ⟨w.heap.size, 1, none⟩ (.slice (some ⟨b, o, none⟩) m c)).setCell ⟨w.heap.size, 2, none⟩ (.bool Sdown)).setCell ⟨w.heap.size, 3, none⟩ (.int .i64 Sarmed)).setCell ⟨w.heap.size, 4, none⟩ (.int .u64 Ssteps))).setCell ⟨bf, 1, none⟩ (.string (strN (fl.all.take kn))) = w6 at *
            clear r0 r1 r2 r3 r4 f0 f1 f2 f3 f4 z0 z1 z2 z3 z4 g0 g1 g2 g3 g4 hlx hlz
            clear y0 y1 y2 hyl
            clear s0 s1 s2 t0 t1 t2 hlq
            refine (rwith_n _ m c ⟨room, L, Sdown, Sarmed, Ssteps⟩ ⟨fl.name, fl.all.take kn, fl.kept⟩ w6 HL.out (HR.out.below B6.out) HM.out).mono ?_
            rw [show (⟨fl.name, fl.all.take kn, fl.kept⟩ : FileS) = ⟨fl.name, fl.all.take kn, min fl.kept kn⟩ by rw [Nat.min_eq_left (Nat.le_of_not_lt HK.out)]]
            rintro e w7 ⟨a5, c5, rfl, hs5, hn5, hb5⟩
            simp only at hs5 hn5 ⊢
            have X7 := Lib.hid (X6.out.below hb5)
            have Z7 := Lib.hid (Z6.out.below hb5)
            have B7 : Hid (Below w.heap.size w w7) := Lib.hid (B6.out.trans (hb5.mono B6.out.size))
            have S5 := Lib.hid hs5
            have N5 := Lib.hid hn5
            have L5 : Hid (w.heap.size + 1 < w6.heap.size) := Lib.hid Z6.out.lt
            obtain ⟨m5, hm5⟩ : ∃ k, ((putFile ⟨fl.name, fl.all.take kn, min fl.kept kn⟩ L)).length = k := ⟨_, rfl⟩
            have HM5 := Lib.hid hm5
            rw [hm5] at S5 N5 ⊢
            clear hs5 hn5 hb5 hm5
            obtain ⟨r0, r1, r2, r3, r4, f0, f1, f2, f3, f4⟩ := X7.out
            obtain ⟨z0, z1, z2, z3, z4, g0, g1, g2, g3, g4⟩ := Z7.out
            have hlx := X7.out.lt
            have hlz := Z7.out.lt
            have RFF := Lib.hid (Z7.out.set ⟨room, [], Sdown, Sarmed, Ssteps⟩ (.slice a5 m5 c5))
            have BF := Lib.hid (B7.out.trans ((Kept.set5D w7 (w.heap.size + 1) ⟨room, [], Sdown, Sarmed, Ssteps⟩ (.slice a5 m5 c5)).below B7.out.size (fun k hk => by omega)))
            unfold set5D at RFF BF
            simp only at RFF BF
            go_wp2_with fail
            have S5F := S5.out.off (Kept.set5D w7 (w.heap.size + 1) ⟨room, [], Sdown, Sarmed, Ssteps⟩ (.slice a5 m5 c5)) N5.out (fun k hk => by have := L5.out; omega)
            unfold set5D at S5F
            simp only at S5F
            generalize (((((w7.setCell ⟨w.heap.size + 1, 0, none⟩ (.int .i64 room)).setCell ⟨w.heap.size + 1, 1, none⟩ (.slice a5 m5 c5)).setCell ⟨w.heap.size + 1, 2, none⟩ (.bool Sdown)).setCell ⟨w.heap.size + 1, 3, none⟩ (.int .i64 Sarmed)).setCell ⟨w.heap.size + 1, 4, none⟩ (.int .u64 Ssteps)) = wF at *
            obtain ⟨q0, q1, q2, q3, q4, _⟩ := RFF.out
            simp only at q0 q1 q2 q3 q4
            refine bodyPost_ret (v := .tuple #[.agg #[.int .i64 room, (.slice a5 m5 c5), .bool Sdown, .int .i64 Sarmed, .int .u64 Ssteps], .int .i64 0]) (by simp [results, Tryz.results56, go_sem, q0, q1, q2, q3, q4]) rfl ?_
            rw [HV.out]
            exact ⟨_, rfl, RIs.new (D := ⟨room, (putFile ⟨fl.name, fl.all.take kn, min fl.kept kn⟩ L), Sdown, Sarmed, Ssteps⟩) HM5.out (S5F), BF.out, by first | exact fun g hg => .inl hg | (intro g hg; first | exact (F3.out g hg).imp id (fun h => by have := L3.out; omega) | (right; first | (have h5 := N6.out g hg; have h6 := L6.out; omega) | (have h5 := N5.out g hg; have h6 := L5.out; omega)))⟩
  · go_enter Tryz.func56, Tryz.ntmps56
    go_wp2_with fail
    generalize World.alloc (World.alloc w _) _ = w1 at *
    have X1 := Lib.hid BX
    have Z1 := Lib.hid BZ
    have LZ := BZ.lt
    clear BX BZ
    refine (rfind_any _ ⟨room, L, true, armed, steps⟩ n w1 (RIs.new HL.out (HR.out.below B1.out)) HM.out).mono ?_
    rintro e w2 ⟨rfl, hb2⟩
    have X2 := Lib.hid (X1.out.below hb2)
    have Z2 := Lib.hid (Z1.out.below hb2)
    have B2 : Hid (Below w.heap.size w w2) := Lib.hid (B1.out.trans (hb2.mono B1.out.size))
    clear hb2
    have HV := Lib.hid (cutD_down (D := ⟨room, L, true, armed, steps⟩) rfl n k)
    obtain ⟨r0, r1, r2, r3, r4, f0, f1, f2, f3, f4⟩ := X2.out
    obtain ⟨z0, z1, z2, z3, z4, g0, g1, g2, g3, g4⟩ := Z2.out
    have hlx := X2.out.lt
    have hlz := Z2.out.lt
    have RFF := Lib.hid (Z2.out.set ⟨room, [], true, armed, steps⟩ (.slice a m c))
    have BF := Lib.hid (B2.out.trans ((Kept.set5D w2 (w.heap.size + 1) ⟨room, [], true, armed, steps⟩ (.slice a m c)).below B2.out.size (fun k hk => by omega)))
    unfold set5D at RFF BF
    simp only at RFF BF
    go_wp2_with fail
    generalize (((((w2.setCell ⟨w.heap.size + 1, 0, none⟩ (.int .i64 room)).setCell ⟨w.heap.size + 1, 1, none⟩ (.slice a m c)).setCell ⟨w.heap.size + 1, 2, none⟩ (.bool true)).setCell ⟨w.heap.size + 1, 3, none⟩ (.int .i64 armed)).setCell ⟨w.heap.size + 1, 4, none⟩ (.int .u64 steps)) = wF at *
    obtain ⟨q0, q1, q2, q3, q4, _⟩ := RFF.out
    simp only at q0 q1 q2 q3 q4
    refine bodyPost_ret (v := .tuple #[.agg #[.int .i64 room, (.slice a m c), .bool true, .int .i64 armed, .int .u64 steps], .int .i64 50]) (by simp [results, Tryz.results56, go_sem, q0, q1, q2, q3, q4]) rfl ?_
    rw [HV.out]
    exact ⟨_, rfl, RIs.new (D := ⟨room, L, true, armed, steps⟩) HL.out (HR.out.below BF.out), BF.out, by first | exact fun g hg => .inl hg | (intro g hg; first | exact (F3.out g hg).imp id (fun h => by have := L3.out; omega) | (right; first | (have h5 := N6.out g hg; have h6 := L6.out; omega) | (have h5 := N5.out g hg; have h6 := L5.out; omega)))⟩
theorem rcut_any (v : Value) (D : DiskS) (n : ByteArray) (k : Int) (w : World) (h : RIs w v D) (hg : DGood D) (hsm : ∀ fl ∈ D.files, fl.all.length ≤ 2097152) : Calls Tryz.prog 56 #[v, .string n, .int .i64 k] w (RPost (cutD D n k) w) := (rcut_new v D n k w h hg hsm).mono fun _ _ h => h.post
end Go.Proofs.YtofhccpagnkalaaGreat

/- The document's disk: Move, Free; contracts; no conditions but the ranges. -/
namespace Go.Proofs.YtofhccpagnkalaaGreat
open Go.RowKit Go.Maps Go.Proofs.Own

set_option maxHeartbeats 4000000 in
set_option maxRecDepth 20000 in
theorem rmove_new (v : Value) (D : DiskS) (n to : ByteArray) (w : World) (h : RIs w v D) (hg : DGood D) (hto : to.size ≤ 9223372036854775807) : Calls Tryz.prog 133 #[v, .string n, .string to] w (RPostN (moveD D n to) v w) := by
  obtain ⟨a, c, rfl, hr⟩ := h
  obtain ⟨room, L, down, armed, steps⟩ := D
  have HG := Lib.hid hg
  simp only at hr ⊢
  have HR := Lib.hid hr
  obtain ⟨m, hlm⟩ : ∃ m, L.length = m := ⟨_, rfl⟩
  have HL := Lib.hid hlm
  rw [hlm] at HR ⊢
  have HM : Hid (L.length ≤ 1000) := Lib.hid (by have := hg.few; simp only at this; omega)
  have HA : Hid ((0 ≤ steps ∧ steps ≤ 1000000000) ∧ -1 ≤ armed ∧ armed ≤ 9223372036854775807) := Lib.hid ⟨⟨hg.wf.steps0, hg.wf.steps1⟩, hg.wf.armed0, hg.wf.armed1⟩
  have hm1000 : (m : Int) ≤ 1000 := by have := HM.out; omega
  clear hr hlm hg
  have BX := (RD.box w ⟨room, L, down, armed, steps⟩ (.slice a m c)).below ((Below.refl _ _).alloc (Nat.le_refl _) (.cells #[.int .i64 0, .slice none 0 0, .bool false, .int .i64 0, .int .u64 0] 29))
  have BZ := RD.zero (w.alloc (.cells #[.int .i64 room, .slice a m c, .bool down, .int .i64 armed, .int .u64 steps] 29))
  have hsz : (w.alloc (.cells #[.int .i64 room, .slice a m c, .bool down, .int .i64 armed, .int .u64 steps] 29)).heap.size = w.heap.size + 1 := by simp
  simp only at BX
  rw [hsz] at BZ
  have B1 : Hid (Below w.heap.size w ((w.alloc (.cells #[.int .i64 room, .slice a m c, .bool down, .int .i64 armed, .int .u64 steps] 29)).alloc (.cells #[.int .i64 0, .slice none 0 0, .bool false, .int .i64 0, .int .u64 0] 29))) := Lib.hid (((Below.refl _ _).alloc (Nat.le_refl _) _).alloc (by simp) _)
  clear hsz
  cases down
  · go_enter Tryz.func133, Tryz.ntmps133
    go_wp2_with fail
    generalize World.alloc (World.alloc w _) _ = w1 at *
    have X1 := Lib.hid BX
    have Z1 := Lib.hid BZ
    have LZ := BZ.lt
    clear BX BZ
    refine (rfind_any _ ⟨room, L, false, armed, steps⟩ n w1 (RIs.new HL.out (HR.out.below B1.out)) HM.out).mono ?_
    rintro e w2 ⟨rfl, hb2⟩
    have X2 := Lib.hid (X1.out.below hb2)
    have Z2 := Lib.hid (Z1.out.below hb2)
    have B2 : Hid (Below w.heap.size w w2) := Lib.hid (B1.out.trans (hb2.mono B1.out.size))
    clear hb2
    cases hf : findFile n L with
    | none =>
      have HV : Hid (moveD ⟨room, L, false, armed, steps⟩ n to = (⟨room, L, false, armed, steps⟩, 31)) := Lib.hid (by unfold moveD; simp only [hf]; rw [fileE_31 rfl hf])
      have hI : findI n L = -1 := findI_none.2 hf
      rw [hI]
      clear hf hI
      obtain ⟨r0, r1, r2, r3, r4, f0, f1, f2, f3, f4⟩ := X2.out
      obtain ⟨z0, z1, z2, z3, z4, g0, g1, g2, g3, g4⟩ := Z2.out
      have hlx := X2.out.lt
      have hlz := Z2.out.lt
      have RFF := Lib.hid (Z2.out.set ⟨room, [], false, armed, steps⟩ (.slice a m c))
      have BF := Lib.hid (B2.out.trans ((Kept.set5D w2 (w.heap.size + 1) ⟨room, [], false, armed, steps⟩ (.slice a m c)).below B2.out.size (fun k hk => by omega)))
      unfold set5D at RFF BF
      simp only at RFF BF
      go_wp2_with fail
      generalize (((((w2.setCell ⟨w.heap.size + 1, 0, none⟩ (.int .i64 room)).setCell ⟨w.heap.size + 1, 1, none⟩ (.slice a m c)).setCell ⟨w.heap.size + 1, 2, none⟩ (.bool false)).setCell ⟨w.heap.size + 1, 3, none⟩ (.int .i64 armed)).setCell ⟨w.heap.size + 1, 4, none⟩ (.int .u64 steps)) = wF at *
      obtain ⟨q0, q1, q2, q3, q4, _⟩ := RFF.out
      simp only at q0 q1 q2 q3 q4
      refine bodyPost_ret (v := .tuple #[.agg #[.int .i64 room, (.slice a m c), .bool false, .int .i64 armed, .int .u64 steps], .int .i64 31]) (by simp [results, Tryz.results133, go_sem, q0, q1, q2, q3, q4]) rfl ?_
      rw [HV.out]
      exact ⟨_, rfl, RIs.new (D := ⟨room, L, false, armed, steps⟩) HL.out (HR.out.below BF.out), BF.out, by first | exact fun g hg => .inl hg | (intro g hg; first | exact (F3.out g hg).imp id (fun h => by have := L3.out; omega) | (right; first | (have h5 := N6.out g hg; have h6 := L6.out; omega) | (have h5 := N5.out g hg; have h6 := L5.out; omega)))⟩
    | some fl =>
      obtain ⟨i, hI, hLi⟩ := findI_some hf
      rw [hI]
      have hi0 : ¬ (i : Int) < 0 := by omega
      have HF := Lib.hid hf
      obtain ⟨b, o, rfl, hbl, k0, k1, k2⟩ := HR.out.file hLi
      have FC := Lib.hid (And.intro k0 (And.intro k1 k2))
      have FL := Lib.hid hbl
      have hbx1 : ¬ b = w.heap.size := by omega
      have hbx2 : ¬ w.heap.size = b := by omega
      have hss := size_strN fl.all
      have him : (i : Int) < (m : Int) := by have h1 := (List.getElem?_eq_some_iff.1 hLi).1; have h2 := HL.out; omega
      clear k0 k1 k2 hbl
      clear hf hI hLi
      obtain ⟨r0, r1, r2, r3, r4, f0, f1, f2, f3, f4⟩ := X2.out
      obtain ⟨z0, z1, z2, z3, z4, g0, g1, g2, g3, g4⟩ := Z2.out
      have hlx := X2.out.lt
      have hlz := Z2.out.lt
      go_wp2_with fail
      refine (rnamed_any to w2 hto).mono ?_
      rintro e w2' ⟨rfl, rfl⟩
      cases hnm : isName to
      · have hnp : ¬ (1 ≤ to.size ∧ to.size ≤ 16) := of_decide_eq_false hnm
        have HV : Hid (moveD ⟨room, L, false, armed, steps⟩ n to = (⟨room, L, false, armed, steps⟩, 2)) := Lib.hid (by unfold moveD; simp only [HF.out]; rw [if_neg (by simp), if_pos hnp])
        clear hnp hnm
        have RFF := Lib.hid (Z2.out.set ⟨room, [], false, armed, steps⟩ (.slice (some ⟨b, o, none⟩) m c))
        have BF := Lib.hid (B2.out.trans ((Kept.set5D w2 (w.heap.size + 1) ⟨room, [], false, armed, steps⟩ (.slice (some ⟨b, o, none⟩) m c)).below B2.out.size (fun k hk => by omega)))
        unfold set5D at RFF BF
        simp only at RFF BF
        go_wp2_with fail
        generalize (((((w2.setCell ⟨w.heap.size + 1, 0, none⟩ (.int .i64 room)).setCell ⟨w.heap.size + 1, 1, none⟩ (.slice (some ⟨b, o, none⟩) m c)).setCell ⟨w.heap.size + 1, 2, none⟩ (.bool false)).setCell ⟨w.heap.size + 1, 3, none⟩ (.int .i64 armed)).setCell ⟨w.heap.size + 1, 4, none⟩ (.int .u64 steps)) = wF at *
        obtain ⟨q0, q1, q2, q3, q4, _⟩ := RFF.out
        simp only at q0 q1 q2 q3 q4
        refine bodyPost_ret (v := .tuple #[.agg #[.int .i64 room, (.slice (some ⟨b, o, none⟩) m c), .bool false, .int .i64 armed, .int .u64 steps], .int .i64 2]) (by simp [results, Tryz.results133, go_sem, q0, q1, q2, q3, q4]) rfl ?_
        rw [HV.out]
        exact ⟨_, rfl, RIs.new (D := ⟨room, L, false, armed, steps⟩) HL.out (HR.out.below BF.out), BF.out, by first | exact fun g hg => .inl hg | (intro g hg; first | exact (F3.out g hg).imp id (fun h => by have := L3.out; omega) | (right; first | (have h5 := N6.out g hg; have h6 := L6.out; omega) | (have h5 := N5.out g hg; have h6 := L5.out; omega)))⟩
      · have hnp : ¬ ¬ (1 ≤ to.size ∧ to.size ≤ 16) := not_not_intro (of_decide_eq_true hnm)
        have HNP := Lib.hid hnp
        clear hnp hnm
        go_wp2_with fail
        clear r0 r1 r2 r3 r4 f0 f1 f2 f3 f4 z0 z1 z2 z3 z4 g0 g1 g2 g3 g4 hlx hlz
        refine (rstep_any ⟨room, L, false, armed, steps⟩ (some ⟨b, o, none⟩) m c w2 HA.out.1.1 HA.out.1.2 HA.out.2.1 HA.out.2.2).mono ?_
        rintro e w3 ⟨rfl, hb3⟩
        have X3 := Lib.hid (X2.out.below hb3)
        have Z3 := Lib.hid (Z2.out.below hb3)
        have B3 : Hid (Below w.heap.size w w3) := Lib.hid (B2.out.trans (hb3.mono B2.out.size))
        clear hb3
        obtain ⟨S, hS, hSf, hSr⟩ := stepD_eq ⟨room, L, false, armed, steps⟩
        simp only at hSf hSr
        rw [hS]
        have HS := Lib.hid hS
        have HSF := Lib.hid hSf
        have HSR := Lib.hid hSr
        clear hS hSf hSr
        obtain ⟨Sroom, SL, Sdown, Sarmed, Ssteps⟩ := S
        simp only at HSF HSR ⊢
        obtain rfl : L = SL := HSF.out.symm
        obtain rfl : room = Sroom := HSR.out.symm
        by_cases h0 : armed = 0
        · have hd : decide (armed ≠ 0) = false := decide_eq_false (by simpa using h0)
          have HV : Hid (moveD ⟨room, L, false, armed, steps⟩ n to = (⟨room, L, Sdown, Sarmed, Ssteps⟩, 50)) := Lib.hid (by unfold moveD; simp only [HF.out]; rw [if_neg (by simp), if_neg HNP.out, if_pos h0, HS.out])
          rw [hd]
          clear h0
          obtain ⟨r0, r1, r2, r3, r4, f0, f1, f2, f3, f4⟩ := X3.out
          obtain ⟨z0, z1, z2, z3, z4, g0, g1, g2, g3, g4⟩ := Z3.out
          have hlx := X3.out.lt
          have hlz := Z3.out.lt
          have X4 := Lib.hid (X3.out.set ⟨room, [], Sdown, Sarmed, Ssteps⟩ (.slice (some ⟨b, o, none⟩) m c))
          have KS4 := Kept.set5D w3 w.heap.size ⟨room, [], Sdown, Sarmed, Ssteps⟩ (.slice (some ⟨b, o, none⟩) m c)
          have Z4 := Lib.hid (Z3.out.kept KS4 (by omega))
          have B4 := Lib.hid (B3.out.trans (KS4.below B3.out.size (fun k hk => by omega)))
          unfold set5D at X4 Z4 B4
          simp only at X4 Z4 B4
          clear KS4
          have RFF := Lib.hid (Z4.out.set ⟨room, [], Sdown, Sarmed, Ssteps⟩ (.slice (some ⟨b, o, none⟩) m c))
          have BF := Lib.hid (B4.out.trans ((Kept.set5D (((((w3.setCell ⟨w.heap.size, 0, none⟩ (.int .i64 room)).setCell ⟨w.heap.size, 1, none⟩ (.slice (some ⟨b, o, none⟩) m c)).setCell ⟨w.heap.size, 2, none⟩ (.bool Sdown)).setCell ⟨w.heap.size, 3, none⟩ (.int .i64 Sarmed)).setCell ⟨w.heap.size, 4, none⟩ (.int .u64 Ssteps)) (w.heap.size + 1) ⟨room, [], Sdown, Sarmed, Ssteps⟩ (.slice (some ⟨b, o, none⟩) m c)).below B4.out.size (fun k hk => by omega)))
          unfold set5D at RFF BF
          simp only at RFF BF
          go_wp2_with fail
          generalize ((((((((((w3.setCell ⟨w.heap.size, 0, none⟩ (.int .i64 room)).setCell ⟨w.heap.size, 1, none⟩ (.slice (some ⟨b, o, none⟩) m c)).setCell ⟨w.heap.size, 2, none⟩ (.bool Sdown)).setCell ⟨w.heap.size, 3, none⟩ (.int .i64 Sarmed)).setCell ⟨w.heap.size, 4, none⟩ (.int .u64 Ssteps)).setCell ⟨w.heap.size + 1, 0, none⟩ (.int .i64 room)).setCell ⟨w.heap.size + 1, 1, none⟩ (.slice (some ⟨b, o, none⟩) m c)).setCell ⟨w.heap.size + 1, 2, none⟩ (.bool Sdown)).setCell ⟨w.heap.size + 1, 3, none⟩ (.int .i64 Sarmed)).setCell ⟨w.heap.size + 1, 4, none⟩ (.int .u64 Ssteps)) = wF at *
          obtain ⟨q0, q1, q2, q3, q4, _⟩ := RFF.out
          simp only at q0 q1 q2 q3 q4
          refine bodyPost_ret (v := .tuple #[.agg #[.int .i64 room, (.slice (some ⟨b, o, none⟩) m c), .bool Sdown, .int .i64 Sarmed, .int .u64 Ssteps], .int .i64 50]) (by simp [results, Tryz.results133, go_sem, q0, q1, q2, q3, q4]) rfl ?_
          rw [HV.out]
          exact ⟨_, rfl, RIs.new (D := ⟨room, L, Sdown, Sarmed, Ssteps⟩) HL.out (HR.out.below BF.out), BF.out, by first | exact fun g hg => .inl hg | (intro g hg; first | exact (F3.out g hg).imp id (fun h => by have := L3.out; omega) | (right; first | (have h5 := N6.out g hg; have h6 := L6.out; omega) | (have h5 := N5.out g hg; have h6 := L5.out; omega)))⟩
        · have hd : decide (armed ≠ 0) = true := decide_eq_true h0
          have HV : Hid (moveD ⟨room, L, false, armed, steps⟩ n to = (⟨room, (putFile { fl with name := to } (delFile n L)), Sdown, Sarmed, Ssteps⟩, 0)) := Lib.hid (by unfold moveD; simp only [HF.out]; rw [if_neg (by simp), if_neg HNP.out, if_neg h0, HS.out])
          rw [hd]
          clear h0
          obtain ⟨r0, r1, r2, r3, r4, f0, f1, f2, f3, f4⟩ := X3.out
          obtain ⟨z0, z1, z2, z3, z4, g0, g1, g2, g3, g4⟩ := Z3.out
          have hlx := X3.out.lt
          have hlz := Z3.out.lt
          have y0 := Below.at B3.out FC.out.1 FL.out
          have y1 := Below.at B3.out FC.out.2.1 FL.out
          have y2 := Below.at B3.out FC.out.2.2 FL.out
          have hyl : b < w3.heap.size := Nat.lt_of_lt_of_le FL.out B3.out.size
          have X4 := Lib.hid (X3.out.set ⟨room, [], Sdown, Sarmed, Ssteps⟩ (.slice (some ⟨b, o, none⟩) m c))
          have KS4 := Kept.set5D w3 w.heap.size ⟨room, [], Sdown, Sarmed, Ssteps⟩ (.slice (some ⟨b, o, none⟩) m c)
          have Z4 := Lib.hid (Z3.out.kept KS4 (by omega))
          have B4 := Lib.hid (B3.out.trans (KS4.below B3.out.size (fun k hk => by omega)))
          unfold set5D at X4 Z4 B4
          simp only at X4 Z4 B4
          clear KS4
          go_wp2_with fail
          have QB := RF.box ((((((w3.setCell ⟨w.heap.size, 0, none⟩ (.int .i64 room)).setCell ⟨w.heap.size, 1, none⟩ (.slice (some ⟨b, o, none⟩) m c)).setCell ⟨w.heap.size, 2, none⟩ (.bool Sdown)).setCell ⟨w.heap.size, 3, none⟩ (.int .i64 Sarmed)).setCell ⟨w.heap.size, 4, none⟩ (.int .u64 Ssteps))) fl
          have hszq : ((((((w3.setCell ⟨w.heap.size, 0, none⟩ (.int .i64 room)).setCell ⟨w.heap.size, 1, none⟩ (.slice (some ⟨b, o, none⟩) m c)).setCell ⟨w.heap.size, 2, none⟩ (.bool Sdown)).setCell ⟨w.heap.size, 3, none⟩ (.int .i64 Sarmed)).setCell ⟨w.heap.size, 4, none⟩ (.int .u64 Ssteps))).heap.size = w3.heap.size := by simp [World.setCell]
          rw [hszq] at QB
          clear hszq
          have AL : Below ((((((w3.setCell ⟨w.heap.size, 0, none⟩ (.int .i64 room)).setCell ⟨w.heap.size, 1, none⟩ (.slice (some ⟨b, o, none⟩) m c)).setCell ⟨w.heap.size, 2, none⟩ (.bool Sdown)).setCell ⟨w.heap.size, 3, none⟩ (.int .i64 Sarmed)).setCell ⟨w.heap.size, 4, none⟩ (.int .u64 Ssteps))).heap.size ((((((w3.setCell ⟨w.heap.size, 0, none⟩ (.int .i64 room)).setCell ⟨w.heap.size, 1, none⟩ (.slice (some ⟨b, o, none⟩) m c)).setCell ⟨w.heap.size, 2, none⟩ (.bool Sdown)).setCell ⟨w.heap.size, 3, none⟩ (.int .i64 Sarmed)).setCell ⟨w.heap.size, 4, none⟩ (.int .u64 Ssteps))) (((((((w3.setCell ⟨w.heap.size, 0, none⟩ (.int .i64 room)).setCell ⟨w.heap.size, 1, none⟩ (.slice (some ⟨b, o, none⟩) m c)).setCell ⟨w.heap.size, 2, none⟩ (.bool Sdown)).setCell ⟨w.heap.size, 3, none⟩ (.int .i64 Sarmed)).setCell ⟨w.heap.size, 4, none⟩ (.int .u64 Ssteps))).alloc (.cells #[.string fl.name, .string (strN (fl.all)), .int .i64 (fl.kept : Nat)] 96)) := (Below.refl _ _).alloc (Nat.le_refl _) _
          have X5 := Lib.hid (X4.out.below AL)
          have Z5 := Lib.hid (Z4.out.below AL)
          have B5 := Lib.hid (B4.out.trans (AL.mono B4.out.size))
          clear AL
          generalize World.alloc _ _ = w5 at *
          have Q5 := Lib.hid QB
          clear QB
          have hbf0 : w.heap.size + 1 < w3.heap.size := Z3.out.lt
          generalize w3.heap.size = bf at *
          clear r0 r1 r2 r3 r4 f0 f1 f2 f3 f4 z0 z1 z2 z3 z4 g0 g1 g2 g3 g4 hlx hlz
          clear y0 y1 y2 hyl
          refine (rwithout_any _ ⟨room, L, Sdown, Sarmed, Ssteps⟩ n w5 (RIs.new HL.out (HR.out.below B5.out)) HM.out).mono ?_
          rintro e w6 ⟨a6, c6, rfl, hs6, hn6, hb6⟩
          simp only at hs6 hn6 ⊢
          have X6 := Lib.hid (X5.out.below hb6)
          have Z6 := Lib.hid (Z5.out.below hb6)
          have B6 : Hid (Below w.heap.size w w6) := Lib.hid (B5.out.trans (hb6.mono B5.out.size))
          have Q6 := Lib.hid (Q5.out.below hb6)
          have S6 := Lib.hid hs6
          have N6 := Lib.hid hn6
          have L6 : Hid (bf < w5.heap.size) := Lib.hid Q5.out.lt
          obtain ⟨m6, hm6⟩ : ∃ k, (delFile n L).length = k := ⟨_, rfl⟩
          have HM6 := Lib.hid hm6
          have HL6 : Hid ((delFile n L).length ≤ 1000) := Lib.hid (Nat.le_trans (length_del n L) HM.out)
          rw [hm6] at S6 N6 ⊢
          clear hs6 hn6 hb6 hm6
          obtain ⟨r0, r1, r2, r3, r4, f0, f1, f2, f3, f4⟩ := X6.out
          obtain ⟨z0, z1, z2, z3, z4, g0, g1, g2, g3, g4⟩ := Z6.out
          have hlx := X6.out.lt
          have hlz := Z6.out.lt
          obtain ⟨s0, s1, s2, t0, t1, t2⟩ := Q6.out
          have hlq := Q6.out.lt
          have KS6 := Kept.set5D w6 w.heap.size ⟨room, [], Sdown, Sarmed, Ssteps⟩ (.slice a6 m6 c6)
          have S7 := S6.out.off KS6 N6.out (fun k hk => by have := L6.out; omega)
          unfold set5D at S7
          simp only at S7
          clear KS6
          have X7 := Lib.hid (X6.out.set ⟨room, [], Sdown, Sarmed, Ssteps⟩ (.slice a6 m6 c6))
          have KS7 := Kept.set5D w6 w.heap.size ⟨room, [], Sdown, Sarmed, Ssteps⟩ (.slice a6 m6 c6)
          have Z7 := Lib.hid (Z6.out.kept KS7 (by omega))
          have B7 := Lib.hid (B6.out.trans (KS7.below B6.out.size (fun k hk => by omega)))
          unfold set5D at X7 Z7 B7
          simp only at X7 Z7 B7
          clear KS7
          have K8 := Kept.setCell ((((((w6.setCell ⟨w.heap.size, 0, none⟩ (.int .i64 room)).setCell ⟨w.heap.size, 1, none⟩ (.slice a6 m6 c6)).setCell ⟨w.heap.size, 2, none⟩ (.bool Sdown)).setCell ⟨w.heap.size, 3, none⟩ (.int .i64 Sarmed)).setCell ⟨w.heap.size, 4, none⟩ (.int .u64 Ssteps))) ⟨bf, 0, none⟩ (.string to)
          have X8 := Lib.hid (X7.out.kept K8 (by simp only; omega))
          have Z8 := Lib.hid (Z7.out.kept K8 (by simp only; omega))
          have B8 := Lib.hid (B7.out.trans (K8.below B7.out.size (fun k hk => by simp only at hk; omega)))
          have S8 := Lib.hid (S7.off K8 N6.out (fun k hk => by simp only at hk; have := L6.out; omega))
          clear K8 S7
          go_wp2_with fail
          generalize ((((((w6.setCell ⟨w.heap.size, 0, none⟩ (.int .i64 room)).setCell ⟨w.heap.size, 1, none⟩ (.slice a6 m6 c6)).setCell ⟨w.heap.size, 2, none⟩ (.bool Sdown)).setCell ⟨w.heap.size, 3, none⟩ (.int .i64 Sarmed)).setCell ⟨w.heap.size, 4, none⟩ (.int .u64 Ssteps))).setCell ⟨bf, 0, none⟩ (.string to) = w8 at *
          clear r0 r1 r2 r3 r4 f0 f1 f2 f3 f4 z0 z1 z2 z3 z4 g0 g1 g2 g3 g4 hlx hlz
          clear s0 s1 s2 t0 t1 t2 hlq
          refine (rwith_n _ m6 c6 ⟨room, delFile n L, Sdown, Sarmed, Ssteps⟩ { fl with name := to } w8 HM6.out S8.out HL6.out).mono ?_
          rintro e w9 ⟨a5, c5, rfl, hs5, hn5, hb5⟩
          simp only at hs5 hn5 ⊢
          have X9 := Lib.hid (X8.out.below hb5)
          have Z9 := Lib.hid (Z8.out.below hb5)
          have B9 : Hid (Below w.heap.size w w9) := Lib.hid (B8.out.trans (hb5.mono B8.out.size))
          have S5 := Lib.hid hs5
          have N5 := Lib.hid hn5
          have L5 : Hid (w.heap.size + 1 < w8.heap.size) := Lib.hid Z8.out.lt
          obtain ⟨m5, hm5⟩ : ∃ k, ((putFile { fl with name := to } (delFile n L))).length = k := ⟨_, rfl⟩
          have HM5 := Lib.hid hm5
          rw [hm5] at S5 N5 ⊢
          clear hs5 hn5 hb5 hm5
          obtain ⟨r0, r1, r2, r3, r4, f0, f1, f2, f3, f4⟩ := X9.out
          obtain ⟨z0, z1, z2, z3, z4, g0, g1, g2, g3, g4⟩ := Z9.out
          have hlx := X9.out.lt
          have hlz := Z9.out.lt
          have RFF := Lib.hid (Z9.out.set ⟨room, [], Sdown, Sarmed, Ssteps⟩ (.slice a5 m5 c5))
          have BF := Lib.hid (B9.out.trans ((Kept.set5D w9 (w.heap.size + 1) ⟨room, [], Sdown, Sarmed, Ssteps⟩ (.slice a5 m5 c5)).below B9.out.size (fun k hk => by omega)))
          unfold set5D at RFF BF
          simp only at RFF BF
          go_wp2_with fail
          have S5F := S5.out.off (Kept.set5D w9 (w.heap.size + 1) ⟨room, [], Sdown, Sarmed, Ssteps⟩ (.slice a5 m5 c5)) N5.out (fun k hk => by have := L5.out; omega)
          unfold set5D at S5F
          simp only at S5F
          generalize (((((w9.setCell ⟨w.heap.size + 1, 0, none⟩ (.int .i64 room)).setCell ⟨w.heap.size + 1, 1, none⟩ (.slice a5 m5 c5)).setCell ⟨w.heap.size + 1, 2, none⟩ (.bool Sdown)).setCell ⟨w.heap.size + 1, 3, none⟩ (.int .i64 Sarmed)).setCell ⟨w.heap.size + 1, 4, none⟩ (.int .u64 Ssteps)) = wF at *
          obtain ⟨q0, q1, q2, q3, q4, _⟩ := RFF.out
          simp only at q0 q1 q2 q3 q4
          refine bodyPost_ret (v := .tuple #[.agg #[.int .i64 room, (.slice a5 m5 c5), .bool Sdown, .int .i64 Sarmed, .int .u64 Ssteps], .int .i64 0]) (by simp [results, Tryz.results133, go_sem, q0, q1, q2, q3, q4]) rfl ?_
          rw [HV.out]
          exact ⟨_, rfl, RIs.new (D := ⟨room, (putFile { fl with name := to } (delFile n L)), Sdown, Sarmed, Ssteps⟩) HM5.out (S5F), BF.out, by first | exact fun g hg => .inl hg | (intro g hg; first | exact (F3.out g hg).imp id (fun h => by have := L3.out; omega) | (right; first | (have h5 := N6.out g hg; have h6 := L6.out; omega) | (have h5 := N5.out g hg; have h6 := L5.out; omega)))⟩
  · go_enter Tryz.func133, Tryz.ntmps133
    go_wp2_with fail
    generalize World.alloc (World.alloc w _) _ = w1 at *
    have X1 := Lib.hid BX
    have Z1 := Lib.hid BZ
    have LZ := BZ.lt
    clear BX BZ
    refine (rfind_any _ ⟨room, L, true, armed, steps⟩ n w1 (RIs.new HL.out (HR.out.below B1.out)) HM.out).mono ?_
    rintro e w2 ⟨rfl, hb2⟩
    have X2 := Lib.hid (X1.out.below hb2)
    have Z2 := Lib.hid (Z1.out.below hb2)
    have B2 : Hid (Below w.heap.size w w2) := Lib.hid (B1.out.trans (hb2.mono B1.out.size))
    clear hb2
    have HV := Lib.hid (moveD_down (D := ⟨room, L, true, armed, steps⟩) rfl n to)
    obtain ⟨r0, r1, r2, r3, r4, f0, f1, f2, f3, f4⟩ := X2.out
    obtain ⟨z0, z1, z2, z3, z4, g0, g1, g2, g3, g4⟩ := Z2.out
    have hlx := X2.out.lt
    have hlz := Z2.out.lt
    have RFF := Lib.hid (Z2.out.set ⟨room, [], true, armed, steps⟩ (.slice a m c))
    have BF := Lib.hid (B2.out.trans ((Kept.set5D w2 (w.heap.size + 1) ⟨room, [], true, armed, steps⟩ (.slice a m c)).below B2.out.size (fun k hk => by omega)))
    unfold set5D at RFF BF
    simp only at RFF BF
    go_wp2_with fail
    generalize (((((w2.setCell ⟨w.heap.size + 1, 0, none⟩ (.int .i64 room)).setCell ⟨w.heap.size + 1, 1, none⟩ (.slice a m c)).setCell ⟨w.heap.size + 1, 2, none⟩ (.bool true)).setCell ⟨w.heap.size + 1, 3, none⟩ (.int .i64 armed)).setCell ⟨w.heap.size + 1, 4, none⟩ (.int .u64 steps)) = wF at *
    obtain ⟨q0, q1, q2, q3, q4, _⟩ := RFF.out
    simp only at q0 q1 q2 q3 q4
    refine bodyPost_ret (v := .tuple #[.agg #[.int .i64 room, (.slice a m c), .bool true, .int .i64 armed, .int .u64 steps], .int .i64 50]) (by simp [results, Tryz.results133, go_sem, q0, q1, q2, q3, q4]) rfl ?_
    rw [HV.out]
    exact ⟨_, rfl, RIs.new (D := ⟨room, L, true, armed, steps⟩) HL.out (HR.out.below BF.out), BF.out, by first | exact fun g hg => .inl hg | (intro g hg; first | exact (F3.out g hg).imp id (fun h => by have := L3.out; omega) | (right; first | (have h5 := N6.out g hg; have h6 := L6.out; omega) | (have h5 := N5.out g hg; have h6 := L5.out; omega)))⟩
theorem rmove_any (v : Value) (D : DiskS) (n to : ByteArray) (w : World) (h : RIs w v D) (hg : DGood D) (hto : to.size ≤ 9223372036854775807) : Calls Tryz.prog 133 #[v, .string n, .string to] w (RPost (moveD D n to) w) := (rmove_new v D n to w h hg hto).mono fun _ _ h => h.post

theorem total_take (L : List FileS) (j : Nat) : total (L.take j) ≤ total L := by
  have h := total_app (L.take j) (L.drop j)
  rw [List.take_append_drop] at h
  omega
theorem total_snoc {L : List FileS} {j : Nat} {f : FileS} (hf : L[j]? = some f) : total (L.take (j + 1)) = total (L.take j) + f.all.length := by
  rw [List.take_add_one, hf, total_app]
  simp [total]
set_option maxHeartbeats 4000000 in
set_option maxRecDepth 20000 in
theorem rfree_any (v : Value) (D : DiskS) (w : World) (h : RIs w v D) (hg : DGood D) : Calls Tryz.prog 38 #[v] w fun e w' => e = .returned (.int .i64 (freeD D)) ∧ Below w.heap.size w w' := by
  obtain ⟨a, c, rfl, hr⟩ := h
  obtain ⟨room, L, down, armed, steps⟩ := D
  simp only at hr ⊢
  have HR := Lib.hid hr
  have htot : total L ≤ 1048576 := hg.tot
  have hrm0 : 0 ≤ room := hg.wf.room0
  have hrm1 : room ≤ 1048576 := hg.wf.room1
  have hfew : L.length ≤ 128 := hg.few
  obtain ⟨m, hlm⟩ : ∃ m, L.length = m := ⟨_, rfl⟩
  have HL := Lib.hid hlm
  rw [hlm] at HR hfew ⊢
  clear hr hlm hg
  go_enter Tryz.func38, Tryz.ntmps38
  go_wp2_with fail
  have BX := RD.box w ⟨room, L, down, armed, steps⟩ (.slice a m c)
  simp only at BX
  have B1 : Hid (Below w.heap.size w (w.alloc (.cells #[.int .i64 room, .slice a m c, .bool down, .int .i64 armed, .int .u64 steps] 29))) := Lib.hid ((Below.refl _ _).alloc (Nat.le_refl _) _)
  generalize World.alloc w _ = w1 at *
  have BX1 := Lib.hid BX
  clear BX
  go_loopw [3, 4] (fun nv i wr => ∃ j : Nat, i = .int .i64 j ∧ j ≤ m ∧ nv = .int .i64 (room - (total (L.take j) : Nat)) ∧ wr = w1) (fun _ i _ => m - (intOf i).toNat)
  case atStart => exact ⟨0, rfl, by omega, by simp [total], rfl⟩
  case round =>
    obtain ⟨j, rfl, hj, rfl, rfl⟩ := hrel
    obtain ⟨r0, r1, r2, r3, r4, _⟩ := BX1.out
    have ht := total_take L j
    by_cases hlt : j < m
    · obtain ⟨f, hf, _⟩ := getAt (l := L) (j := j) (by rw [HL.out]; exact hlt)
      obtain ⟨b, o, rfl, hbl, c0, c1, c2⟩ := (HR.out.below B1.out).file hf
      have hsn := total_snoc hf
      have ht2 := total_take L (j + 1)
      have hss := size_strN f.all
      obtain ⟨T, hT⟩ : ∃ T, total (L.take j) = T := ⟨_, rfl⟩
      have HT := Lib.hid hT
      have HSN : Hid (total (L.take (j + 1)) = T + f.all.length) := Lib.hid (by rw [hsn, hT])
      have hb1 : (T : Int) + (f.all.length : Int) ≤ 1048576 := by omega
      rw [hT] at ht ⊢
      clear hf hsn ht2 hT
      go_wp2_with fail
      go_roundw
      case rel => exact ⟨j + 1, by first | rfl | go_num, by omega, by rw [HSN.out]; first | go_num | (congr 1; omega) | skip, by first | trivial | rfl⟩
      all_goals (show m - ((j : Int) + 1).toNat < m - ((j : Int)).toNat; omega)
    · obtain rfl : j = m := by omega
      have HTT : Hid (total (L.take j) = total L) := Lib.hid (by rw [List.take_of_length_le (by rw [HL.out]; exact Nat.le_refl _)])
      rw [HTT.out]
      rw [HTT.out] at ht
      by_cases hneg : room - (total L : Int) < 0
      · have HV : Hid (freeD ⟨room, L, down, armed, steps⟩ = 0) := Lib.hid (by unfold freeD; simp only; omega)
        go_wp2_with fail
        go_ret
        exact ⟨by rw [HV.out]; rfl, B1.out⟩
      · have HV : Hid (freeD ⟨room, L, down, armed, steps⟩ = room - (total L : Int)) := Lib.hid (by unfold freeD; simp only; omega)
        go_wp2_with fail
        go_ret
        exact ⟨by rw [HV.out]; rfl, B1.out⟩
end Go.Proofs.YtofhccpagnkalaaGreat

/- The document's disk: Append; contracts; no conditions but the ranges. -/
namespace Go.Proofs.YtofhccpagnkalaaGreat
open Go.RowKit Go.Maps Go.Proofs.Own

theorem getF_all (D : DiskS) (n : ByteArray) : getF D n = match findFile n D.files with | some f => f | none => ⟨n, [], 0⟩ := by
  unfold getF
  cases findFile n D.files <;> rfl
theorem rwith_0 (a : Option Addr) (k c : Nat) (D : DiskS) (n : ByteArray) (bs : List Nat) (w : World) (hn : D.files.length = k) (hr : SRow w 3 (.slice a k c) (D.files.map rfV)) (hm : D.files.length ≤ 1000) : Calls Tryz.prog 40 #[.agg #[.int .i64 D.room, .slice a k c, .bool D.down, .int .i64 D.armed, .int .u64 D.steps], .agg #[.string n, .string (strN bs), .int .i64 0]] w (RNew { D with files := putFile ⟨n, bs, 0⟩ D.files } w) := by
  have h := rwith_n a k c D ⟨n, bs, 0⟩ w hn hr hm
  simpa only [Int.natCast_zero] using h
theorem stepE_eq (D : DiskS) : stepE D = if D.armed = 0 then 50 else 0 := rfl
set_option maxHeartbeats 3000000 in
set_option maxRecDepth 20000 in
theorem rappend_new (v : Value) (D : DiskS) (n : ByteArray) (bs : List Nat) (w : World) (h : RIs w v D) (hg : DGood D) (hn : n.size ≤ 9223372036854775807) (hbs : bs.length ≤ 2097152) : Calls Tryz.prog 11 #[v, .string n, .string (strN bs)] w (RPostN (appendD D n bs) v w) := by
  obtain ⟨a, c, rfl, hr⟩ := h
  obtain ⟨room, L, down, armed, steps⟩ := D
  have HG := Lib.hid hg
  simp only at hr ⊢
  have HR := Lib.hid hr
  obtain ⟨m, hlm⟩ : ∃ m, L.length = m := ⟨_, rfl⟩
  have HL := Lib.hid hlm
  rw [hlm] at HR ⊢
  have HM : Hid (L.length ≤ 1000) := Lib.hid (by have := hg.few; simp only at this; omega)
  have HA : Hid ((0 ≤ steps ∧ steps ≤ 1000000000) ∧ -1 ≤ armed ∧ armed ≤ 9223372036854775807) := Lib.hid ⟨⟨hg.wf.steps0, hg.wf.steps1⟩, hg.wf.armed0, hg.wf.armed1⟩
  have hm1000 : (m : Int) ≤ 1000 := by have := HM.out; omega
  clear hr hlm hg
  have HGE : Hid (∀ fl ∈ L, fl.all.length ≤ 1048576) := Lib.hid (fun fl hfl => by have h1 := HG.out.tot; simp only at h1; obtain ⟨i, hi⟩ := List.getElem?_of_mem hfl; have h2 := total_snoc hi; have h3 := total_take L (i + 1); omega)
  have BX := (RD.box w ⟨room, L, down, armed, steps⟩ (.slice a m c)).below ((Below.refl _ _).alloc (Nat.le_refl _) (.cells #[.int .i64 0, .slice none 0 0, .bool false, .int .i64 0, .int .u64 0] 29))
  have BZ := RD.zero (w.alloc (.cells #[.int .i64 room, .slice a m c, .bool down, .int .i64 armed, .int .u64 steps] 29))
  have hsz : (w.alloc (.cells #[.int .i64 room, .slice a m c, .bool down, .int .i64 armed, .int .u64 steps] 29)).heap.size = w.heap.size + 1 := by simp
  simp only at BX
  rw [hsz] at BZ
  have B1 : Hid (Below w.heap.size w ((w.alloc (.cells #[.int .i64 room, .slice a m c, .bool down, .int .i64 armed, .int .u64 steps] 29)).alloc (.cells #[.int .i64 0, .slice none 0 0, .bool false, .int .i64 0, .int .u64 0] 29))) := Lib.hid (((Below.refl _ _).alloc (Nat.le_refl _) _).alloc (by simp) _)
  clear hsz
  cases down
  · go_enter Tryz.func11, Tryz.ntmps11
    go_wp2_with fail
    generalize World.alloc (World.alloc w _) _ = w1 at *
    have X1 := Lib.hid BX
    have Z1 := Lib.hid BZ
    have LZ := BZ.lt
    clear BX BZ
    refine (rnamed_any n w1 hn).mono ?_
    rintro e w1' ⟨rfl, rfl⟩
    cases hnm : isName n
    · have hnp : ¬ (1 ≤ n.size ∧ n.size ≤ 16) := of_decide_eq_false hnm
      have HV : Hid (appendD ⟨room, L, false, armed, steps⟩ n bs = (⟨room, L, false, armed, steps⟩, 2)) := Lib.hid (by unfold appendD; rw [show appE ⟨room, L, false, armed, steps⟩ n bs = 2 by unfold appE; rw [if_neg (by simp), if_pos hnp], if_pos (by decide)])
      clear hnp hnm
      obtain ⟨r0, r1, r2, r3, r4, f0, f1, f2, f3, f4⟩ := X1.out
      obtain ⟨z0, z1, z2, z3, z4, g0, g1, g2, g3, g4⟩ := Z1.out
      have hlx := X1.out.lt
      have hlz := Z1.out.lt
      have RFF := Lib.hid (Z1.out.set ⟨room, [], false, armed, steps⟩ (.slice a m c))
      have BF := Lib.hid (B1.out.trans ((Kept.set5D w1 (w.heap.size + 1) ⟨room, [], false, armed, steps⟩ (.slice a m c)).below B1.out.size (fun k hk => by omega)))
      unfold set5D at RFF BF
      simp only at RFF BF
      go_wp2_with fail
      generalize (((((w1.setCell ⟨w.heap.size + 1, 0, none⟩ (.int .i64 room)).setCell ⟨w.heap.size + 1, 1, none⟩ (.slice a m c)).setCell ⟨w.heap.size + 1, 2, none⟩ (.bool false)).setCell ⟨w.heap.size + 1, 3, none⟩ (.int .i64 armed)).setCell ⟨w.heap.size + 1, 4, none⟩ (.int .u64 steps)) = wF at *
      obtain ⟨q0, q1, q2, q3, q4, _⟩ := RFF.out
      simp only at q0 q1 q2 q3 q4
      refine bodyPost_ret (v := .tuple #[.agg #[.int .i64 room, (.slice a m c), .bool false, .int .i64 armed, .int .u64 steps], .int .i64 2]) (by simp [results, Tryz.results11, go_sem, q0, q1, q2, q3, q4]) rfl ?_
      rw [HV.out]
      exact ⟨_, rfl, RIs.new (D := ⟨room, L, false, armed, steps⟩) HL.out (HR.out.below BF.out), BF.out, by first | exact fun g hg => .inl hg | (intro g hg; first | exact (F3.out g hg).imp id (fun h => by have := L3.out; omega) | (right; first | (have h5 := N6.out g hg; have h6 := L6.out; omega) | (have h5 := N5.out g hg; have h6 := L5.out; omega)))⟩
    · have hnp : ¬ ¬ (1 ≤ n.size ∧ n.size ≤ 16) := not_not_intro (of_decide_eq_true hnm)
      have HNP := Lib.hid hnp
      clear hnp hnm
      obtain ⟨r0, r1, r2, r3, r4, f0, f1, f2, f3, f4⟩ := X1.out
      obtain ⟨z0, z1, z2, z3, z4, g0, g1, g2, g3, g4⟩ := Z1.out
      have hlx := X1.out.lt
      have hlz := Z1.out.lt
      go_wp2_with fail
      clear r0 r1 r2 r3 r4 f0 f1 f2 f3 f4 z0 z1 z2 z3 z4 g0 g1 g2 g3 g4 hlx hlz
      refine (rfind_any _ ⟨room, L, false, armed, steps⟩ n w1 (RIs.new HL.out (HR.out.below B1.out)) HM.out).mono ?_
      rintro e w2 ⟨rfl, hb2⟩
      have X2 := Lib.hid (X1.out.below hb2)
      have Z2 := Lib.hid (Z1.out.below hb2)
      have B2 : Hid (Below w.heap.size w w2) := Lib.hid (B1.out.trans (hb2.mono B1.out.size))
      clear hb2
      have hbl : ((strN bs).size : Int) = (bs.length : Int) := by rw [size_strN]
      have hbs2 : (bs.length : Int) ≤ 2097152 := by omega
      have hss2 := size_strN bs
      cases hf : findFile n L with
      | none =>
        have hI : findI n L = -1 := findI_none.2 hf
        rw [hI]
        have HF := Lib.hid (show findFile n (⟨room, L, false, armed, steps⟩ : DiskS).files = none from hf)
        clear hI hf
        by_cases h128 : 128 ≤ m
        · have h128b : (128 : Int) ≤ (m : Int) := by omega
          have HV : Hid (appendD ⟨room, L, false, armed, steps⟩ n bs = (⟨room, L, false, armed, steps⟩, 30)) := Lib.hid (by unfold appendD; rw [show appE ⟨room, L, false, armed, steps⟩ n bs = 30 by unfold appE; rw [if_neg (by simp), if_neg HNP.out, if_pos (.inl ⟨HF.out, by have := HL.out; simp only; omega⟩)], if_pos (by decide)])
          obtain ⟨r0, r1, r2, r3, r4, f0, f1, f2, f3, f4⟩ := X2.out
          obtain ⟨z0, z1, z2, z3, z4, g0, g1, g2, g3, g4⟩ := Z2.out
          have hlx := X2.out.lt
          have hlz := Z2.out.lt
          have RFF := Lib.hid (Z2.out.set ⟨room, [], false, armed, steps⟩ (.slice a m c))
          have BF := Lib.hid (B2.out.trans ((Kept.set5D w2 (w.heap.size + 1) ⟨room, [], false, armed, steps⟩ (.slice a m c)).below B2.out.size (fun k hk => by omega)))
          unfold set5D at RFF BF
          simp only at RFF BF
          go_wp2_with fail
          generalize (((((w2.setCell ⟨w.heap.size + 1, 0, none⟩ (.int .i64 room)).setCell ⟨w.heap.size + 1, 1, none⟩ (.slice a m c)).setCell ⟨w.heap.size + 1, 2, none⟩ (.bool false)).setCell ⟨w.heap.size + 1, 3, none⟩ (.int .i64 armed)).setCell ⟨w.heap.size + 1, 4, none⟩ (.int .u64 steps)) = wF at *
          obtain ⟨q0, q1, q2, q3, q4, _⟩ := RFF.out
          simp only at q0 q1 q2 q3 q4
          refine bodyPost_ret (v := .tuple #[.agg #[.int .i64 room, (.slice a m c), .bool false, .int .i64 armed, .int .u64 steps], .int .i64 30]) (by simp [results, Tryz.results11, go_sem, q0, q1, q2, q3, q4]) rfl ?_
          rw [HV.out]
          exact ⟨_, rfl, RIs.new (D := ⟨room, L, false, armed, steps⟩) HL.out (HR.out.below BF.out), BF.out, by first | exact fun g hg => .inl hg | (intro g hg; first | exact (F3.out g hg).imp id (fun h => by have := L3.out; omega) | (right; first | (have h5 := N6.out g hg; have h6 := L6.out; omega) | (have h5 := N5.out g hg; have h6 := L5.out; omega)))⟩
        · have h128b : ¬ (128 : Int) ≤ (m : Int) := by omega
          obtain ⟨r0, r1, r2, r3, r4, f0, f1, f2, f3, f4⟩ := X2.out
          obtain ⟨z0, z1, z2, z3, z4, g0, g1, g2, g3, g4⟩ := Z2.out
          have hlx := X2.out.lt
          have hlz := Z2.out.lt
          go_wp2_with fail
          clear r0 r1 r2 r3 r4 f0 f1 f2 f3 f4 z0 z1 z2 z3 z4 g0 g1 g2 g3 g4 hlx hlz
          refine (rfree_any _ ⟨room, L, false, armed, steps⟩ w2 (RIs.new HL.out (HR.out.below B2.out)) HG.out).mono ?_
          rintro e w3 ⟨rfl, hb3⟩
          have X3 := Lib.hid (X2.out.below hb3)
          have Z3 := Lib.hid (Z2.out.below hb3)
          have B3 : Hid (Below w.heap.size w w3) := Lib.hid (B2.out.trans (hb3.mono B2.out.size))
          clear hb3
          obtain ⟨fr, hfr⟩ : ∃ fr, freeD ⟨room, L, false, armed, steps⟩ = fr := ⟨_, rfl⟩
          have HFR := Lib.hid hfr
          rw [hfr]
          clear hfr
          by_cases hfu : fr < (bs.length : Int)
          · have HV : Hid (appendD ⟨room, L, false, armed, steps⟩ n bs = (⟨room, L, false, armed, steps⟩, 30)) := Lib.hid (by unfold appendD; rw [show appE ⟨room, L, false, armed, steps⟩ n bs = 30 by unfold appE; rw [if_neg (by simp), if_neg HNP.out, if_pos (.inr (by rw [HFR.out]; exact hfu))], if_pos (by decide)])
            obtain ⟨r0, r1, r2, r3, r4, f0, f1, f2, f3, f4⟩ := X3.out
            obtain ⟨z0, z1, z2, z3, z4, g0, g1, g2, g3, g4⟩ := Z3.out
            have hlx := X3.out.lt
            have hlz := Z3.out.lt
            have RFF := Lib.hid (Z3.out.set ⟨room, [], false, armed, steps⟩ (.slice a m c))
            have BF := Lib.hid (B3.out.trans ((Kept.set5D w3 (w.heap.size + 1) ⟨room, [], false, armed, steps⟩ (.slice a m c)).below B3.out.size (fun k hk => by omega)))
            unfold set5D at RFF BF
            simp only at RFF BF
            go_wp2_with fail
            generalize (((((w3.setCell ⟨w.heap.size + 1, 0, none⟩ (.int .i64 room)).setCell ⟨w.heap.size + 1, 1, none⟩ (.slice a m c)).setCell ⟨w.heap.size + 1, 2, none⟩ (.bool false)).setCell ⟨w.heap.size + 1, 3, none⟩ (.int .i64 armed)).setCell ⟨w.heap.size + 1, 4, none⟩ (.int .u64 steps)) = wF at *
            obtain ⟨q0, q1, q2, q3, q4, _⟩ := RFF.out
            simp only at q0 q1 q2 q3 q4
            refine bodyPost_ret (v := .tuple #[.agg #[.int .i64 room, (.slice a m c), .bool false, .int .i64 armed, .int .u64 steps], .int .i64 30]) (by simp [results, Tryz.results11, go_sem, q0, q1, q2, q3, q4]) rfl ?_
            rw [HV.out]
            exact ⟨_, rfl, RIs.new (D := ⟨room, L, false, armed, steps⟩) HL.out (HR.out.below BF.out), BF.out, by first | exact fun g hg => .inl hg | (intro g hg; first | exact (F3.out g hg).imp id (fun h => by have := L3.out; omega) | (right; first | (have h5 := N6.out g hg; have h6 := L6.out; omega) | (have h5 := N5.out g hg; have h6 := L5.out; omega)))⟩
          · have HAE : Hid (appE ⟨room, L, false, armed, steps⟩ n bs = 0) := Lib.hid (by unfold appE; rw [if_neg (by simp), if_neg HNP.out, if_neg (fun h => h.elim (fun h => h128 (by have h1 := h.2; have h2 := HL.out; simp only at h1; omega)) (fun h => by rw [HFR.out] at h; omega))])
            have HAP : Hid (appD ⟨room, L, false, armed, steps⟩ n bs = ⟨room, (putFile ⟨n, bs, 0⟩ L), false, armed, steps⟩) := Lib.hid (by unfold appD; rw [getF_none HF.out]; rfl)
            obtain ⟨r0, r1, r2, r3, r4, f0, f1, f2, f3, f4⟩ := X3.out
            obtain ⟨z0, z1, z2, z3, z4, g0, g1, g2, g3, g4⟩ := Z3.out
            have hlx := X3.out.lt
            have hlz := Z3.out.lt
            have hcat : (⟨#[]⟩ : ByteArray) ++ strN bs = strN bs := strN_app [] bs
            have hcl : ((⟨#[]⟩ : ByteArray).size : Int) + ((strN bs).size : Int) ≤ 9223372036854775807 := by show (0 : Int) + _ ≤ _; rw [size_strN]; omega
            have AL : Below w3.heap.size w3 (w3.alloc (.cells #[.string n, .string (strN (bs)), .int .i64 0] 96)) := (Below.refl _ _).alloc (Nat.le_refl _) _
            have X4 := Lib.hid (X3.out.below AL)
            have Z4 := Lib.hid (Z3.out.below AL)
            have B4 := Lib.hid (B3.out.trans (AL.mono B3.out.size))
            clear AL
            go_wp2_with fail
            generalize World.alloc _ _ = w4 at *
            clear r0 r1 r2 r3 r4 f0 f1 f2 f3 f4 z0 z1 z2 z3 z4 g0 g1 g2 g3 g4 hlx hlz
            clear hcat hcl
            refine (rwith_0 _ m c ⟨room, L, false, armed, steps⟩ n bs w4 HL.out (HR.out.below B4.out) HM.out).mono ?_
            rintro e w5 ⟨a6, c6, rfl, hs6, hn6, hb6⟩
            simp only at hs6 hn6 ⊢
            have X5 := Lib.hid (X4.out.below hb6)
            have Z5 := Lib.hid (Z4.out.below hb6)
            have B5 : Hid (Below w.heap.size w w5) := Lib.hid (B4.out.trans (hb6.mono B4.out.size))
            have S6 := Lib.hid hs6
            have N6 := Lib.hid hn6
            have L6 : Hid (w.heap.size + 1 < w4.heap.size) := Lib.hid Z4.out.lt
            obtain ⟨m6, hm6⟩ : ∃ k, (putFile ⟨n, bs, 0⟩ L).length = k := ⟨_, rfl⟩
            have HM6 := Lib.hid hm6
            rw [hm6] at S6 N6 ⊢
            clear hs6 hn6 hb6 hm6
            go_wp2_with fail
            refine (rstep_any ⟨room, (putFile ⟨n, bs, 0⟩ L), false, armed, steps⟩ a6 m6 c6 w5 HA.out.1.1 HA.out.1.2 HA.out.2.1 HA.out.2.2).mono ?_
            rintro e w6 ⟨rfl, hb6⟩
            have X6 := Lib.hid (X5.out.below hb6)
            have Z6 := Lib.hid (Z5.out.below hb6)
            have B6 : Hid (Below w.heap.size w w6) := Lib.hid (B5.out.trans (hb6.mono B5.out.size))
            have S7 := Lib.hid (S6.out.below hb6)
            clear hb6
            obtain ⟨S, hS, hSf, hSr⟩ := stepD_eq ⟨room, (putFile ⟨n, bs, 0⟩ L), false, armed, steps⟩
            simp only at hSf hSr
            rw [hS]
            have HS := Lib.hid hS
            have HSF := Lib.hid hSf
            have HSR := Lib.hid hSr
            clear hS hSf hSr
            obtain ⟨Sroom, SL, Sdown, Sarmed, Ssteps⟩ := S
            simp only at HSF HSR ⊢
            obtain rfl : room = Sroom := HSR.out.symm
            by_cases h0 : armed = 0
            · have hd : decide (armed ≠ 0) = false := decide_eq_false (by simpa using h0)
              have HV : Hid (appendD ⟨room, L, false, armed, steps⟩ n bs = (⟨room, SL, Sdown, Sarmed, Ssteps⟩, 50)) := Lib.hid (by unfold appendD; rw [HAE.out, if_neg (by simp), HAP.out, HS.out, stepE_eq]; simp only; rw [if_pos h0])
              rw [hd]
              clear h0
              obtain ⟨r0, r1, r2, r3, r4, f0, f1, f2, f3, f4⟩ := X6.out
              obtain ⟨z0, z1, z2, z3, z4, g0, g1, g2, g3, g4⟩ := Z6.out
              have hlx := X6.out.lt
              have hlz := Z6.out.lt
              have X7 := Lib.hid (X6.out.set ⟨room, [], Sdown, Sarmed, Ssteps⟩ (.slice a6 m6 c6))
              have KS7 := Kept.set5D w6 w.heap.size ⟨room, [], Sdown, Sarmed, Ssteps⟩ (.slice a6 m6 c6)
              have Z7 := Lib.hid (Z6.out.kept KS7 (by omega))
              have B7 := Lib.hid (B6.out.trans (KS7.below B6.out.size (fun k hk => by omega)))
              unfold set5D at X7 Z7 B7
              simp only at X7 Z7 B7
              clear KS7
              have RFF := Lib.hid (Z7.out.set ⟨room, [], Sdown, Sarmed, Ssteps⟩ (.slice a6 m6 c6))
              have BF := Lib.hid (B7.out.trans ((Kept.set5D (((((w6.setCell ⟨w.heap.size, 0, none⟩ (.int .i64 room)).setCell ⟨w.heap.size, 1, none⟩ (.slice a6 m6 c6)).setCell ⟨w.heap.size, 2, none⟩ (.bool Sdown)).setCell ⟨w.heap.size, 3, none⟩ (.int .i64 Sarmed)).setCell ⟨w.heap.size, 4, none⟩ (.int .u64 Ssteps)) (w.heap.size + 1) ⟨room, [], Sdown, Sarmed, Ssteps⟩ (.slice a6 m6 c6)).below B7.out.size (fun k hk => by omega)))
              unfold set5D at RFF BF
              simp only at RFF BF
              go_wp2_with fail
              have S8F := SRow.off (S7.out.off (Kept.set5D w6 w.heap.size ⟨room, [], Sdown, Sarmed, Ssteps⟩ (.slice a6 m6 c6)) N6.out (fun k hk => by have := L6.out; omega)) (Kept.set5D (set5D w6 w.heap.size ⟨room, [], Sdown, Sarmed, Ssteps⟩ (.slice a6 m6 c6)) (w.heap.size + 1) ⟨room, [], Sdown, Sarmed, Ssteps⟩ (.slice a6 m6 c6)) N6.out (fun k hk => by have := L6.out; omega)
              unfold set5D at S8F
              simp only at S8F
              generalize ((((((((((w6.setCell ⟨w.heap.size, 0, none⟩ (.int .i64 room)).setCell ⟨w.heap.size, 1, none⟩ (.slice a6 m6 c6)).setCell ⟨w.heap.size, 2, none⟩ (.bool Sdown)).setCell ⟨w.heap.size, 3, none⟩ (.int .i64 Sarmed)).setCell ⟨w.heap.size, 4, none⟩ (.int .u64 Ssteps)).setCell ⟨w.heap.size + 1, 0, none⟩ (.int .i64 room)).setCell ⟨w.heap.size + 1, 1, none⟩ (.slice a6 m6 c6)).setCell ⟨w.heap.size + 1, 2, none⟩ (.bool Sdown)).setCell ⟨w.heap.size + 1, 3, none⟩ (.int .i64 Sarmed)).setCell ⟨w.heap.size + 1, 4, none⟩ (.int .u64 Ssteps)) = wF at *
              obtain ⟨q0, q1, q2, q3, q4, _⟩ := RFF.out
              simp only at q0 q1 q2 q3 q4
              refine bodyPost_ret (v := .tuple #[.agg #[.int .i64 room, (.slice a6 m6 c6), .bool Sdown, .int .i64 Sarmed, .int .u64 Ssteps], .int .i64 50]) (by simp [results, Tryz.results11, go_sem, q0, q1, q2, q3, q4]) rfl ?_
              rw [HV.out]
              exact ⟨_, rfl, RIs.new (D := ⟨room, SL, Sdown, Sarmed, Ssteps⟩) (by rw [show SL = (putFile ⟨n, bs, 0⟩ L) from HSF.out]; exact HM6.out) (by rw [show SL = (putFile ⟨n, bs, 0⟩ L) from HSF.out]; exact S8F), BF.out, by first | exact fun g hg => .inl hg | (intro g hg; first | exact (F3.out g hg).imp id (fun h => by have := L3.out; omega) | (right; first | (have h5 := N6.out g hg; have h6 := L6.out; omega) | (have h5 := N5.out g hg; have h6 := L5.out; omega)))⟩
            · have hd : decide (armed ≠ 0) = true := decide_eq_true h0
              have HV : Hid (appendD ⟨room, L, false, armed, steps⟩ n bs = (⟨room, SL, Sdown, Sarmed, Ssteps⟩, 0)) := Lib.hid (by unfold appendD; rw [HAE.out, if_neg (by simp), HAP.out, HS.out, stepE_eq]; simp only; rw [if_neg h0])
              rw [hd]
              clear h0
              obtain ⟨r0, r1, r2, r3, r4, f0, f1, f2, f3, f4⟩ := X6.out
              obtain ⟨z0, z1, z2, z3, z4, g0, g1, g2, g3, g4⟩ := Z6.out
              have hlx := X6.out.lt
              have hlz := Z6.out.lt
              have X7 := Lib.hid (X6.out.set ⟨room, [], Sdown, Sarmed, Ssteps⟩ (.slice a6 m6 c6))
              have KS7 := Kept.set5D w6 w.heap.size ⟨room, [], Sdown, Sarmed, Ssteps⟩ (.slice a6 m6 c6)
              have Z7 := Lib.hid (Z6.out.kept KS7 (by omega))
              have B7 := Lib.hid (B6.out.trans (KS7.below B6.out.size (fun k hk => by omega)))
              unfold set5D at X7 Z7 B7
              simp only at X7 Z7 B7
              clear KS7
              have RFF := Lib.hid (Z7.out.set ⟨room, [], Sdown, Sarmed, Ssteps⟩ (.slice a6 m6 c6))
              have BF := Lib.hid (B7.out.trans ((Kept.set5D (((((w6.setCell ⟨w.heap.size, 0, none⟩ (.int .i64 room)).setCell ⟨w.heap.size, 1, none⟩ (.slice a6 m6 c6)).setCell ⟨w.heap.size, 2, none⟩ (.bool Sdown)).setCell ⟨w.heap.size, 3, none⟩ (.int .i64 Sarmed)).setCell ⟨w.heap.size, 4, none⟩ (.int .u64 Ssteps)) (w.heap.size + 1) ⟨room, [], Sdown, Sarmed, Ssteps⟩ (.slice a6 m6 c6)).below B7.out.size (fun k hk => by omega)))
              unfold set5D at RFF BF
              simp only at RFF BF
              go_wp2_with fail
              have S8F := SRow.off (S7.out.off (Kept.set5D w6 w.heap.size ⟨room, [], Sdown, Sarmed, Ssteps⟩ (.slice a6 m6 c6)) N6.out (fun k hk => by have := L6.out; omega)) (Kept.set5D (set5D w6 w.heap.size ⟨room, [], Sdown, Sarmed, Ssteps⟩ (.slice a6 m6 c6)) (w.heap.size + 1) ⟨room, [], Sdown, Sarmed, Ssteps⟩ (.slice a6 m6 c6)) N6.out (fun k hk => by have := L6.out; omega)
              unfold set5D at S8F
              simp only at S8F
              generalize ((((((((((w6.setCell ⟨w.heap.size, 0, none⟩ (.int .i64 room)).setCell ⟨w.heap.size, 1, none⟩ (.slice a6 m6 c6)).setCell ⟨w.heap.size, 2, none⟩ (.bool Sdown)).setCell ⟨w.heap.size, 3, none⟩ (.int .i64 Sarmed)).setCell ⟨w.heap.size, 4, none⟩ (.int .u64 Ssteps)).setCell ⟨w.heap.size + 1, 0, none⟩ (.int .i64 room)).setCell ⟨w.heap.size + 1, 1, none⟩ (.slice a6 m6 c6)).setCell ⟨w.heap.size + 1, 2, none⟩ (.bool Sdown)).setCell ⟨w.heap.size + 1, 3, none⟩ (.int .i64 Sarmed)).setCell ⟨w.heap.size + 1, 4, none⟩ (.int .u64 Ssteps)) = wF at *
              obtain ⟨q0, q1, q2, q3, q4, _⟩ := RFF.out
              simp only at q0 q1 q2 q3 q4
              refine bodyPost_ret (v := .tuple #[.agg #[.int .i64 room, (.slice a6 m6 c6), .bool Sdown, .int .i64 Sarmed, .int .u64 Ssteps], .int .i64 0]) (by simp [results, Tryz.results11, go_sem, q0, q1, q2, q3, q4]) rfl ?_
              rw [HV.out]
              exact ⟨_, rfl, RIs.new (D := ⟨room, SL, Sdown, Sarmed, Ssteps⟩) (by rw [show SL = (putFile ⟨n, bs, 0⟩ L) from HSF.out]; exact HM6.out) (by rw [show SL = (putFile ⟨n, bs, 0⟩ L) from HSF.out]; exact S8F), BF.out, by first | exact fun g hg => .inl hg | (intro g hg; first | exact (F3.out g hg).imp id (fun h => by have := L3.out; omega) | (right; first | (have h5 := N6.out g hg; have h6 := L6.out; omega) | (have h5 := N5.out g hg; have h6 := L5.out; omega)))⟩
      | some fl =>
        obtain ⟨i, hI, hLi⟩ := findI_some hf
        rw [hI]
        have hi0 : ¬ (i : Int) < 0 := by omega
        have hi1 : (0 : Int) ≤ (i : Int) := by omega
        have HF := Lib.hid (show findFile n (⟨room, L, false, armed, steps⟩ : DiskS).files = some fl from hf)
        have hfl := HGE.out fl (List.mem_of_getElem? hLi)
        obtain ⟨b, o, rfl, hbl, k0, k1, k2⟩ := HR.out.file hLi
        have FC := Lib.hid (And.intro k0 (And.intro k1 k2))
        have FL := Lib.hid hbl
        have hbx1 : ¬ b = w.heap.size := by omega
        have hbx2 : ¬ w.heap.size = b := by omega
        have hss := size_strN fl.all
        have him : (i : Int) < (m : Int) := by have h1 := (List.getElem?_eq_some_iff.1 hLi).1; have h2 := HL.out; omega
        clear k0 k1 k2 hbl
        clear hf hI hLi
        obtain ⟨r0, r1, r2, r3, r4, f0, f1, f2, f3, f4⟩ := X2.out
        obtain ⟨z0, z1, z2, z3, z4, g0, g1, g2, g3, g4⟩ := Z2.out
        have hlx := X2.out.lt
        have hlz := Z2.out.lt
        go_wp2_with fail
        clear r0 r1 r2 r3 r4 f0 f1 f2 f3 f4 z0 z1 z2 z3 z4 g0 g1 g2 g3 g4 hlx hlz
        refine (rfree_any _ ⟨room, L, false, armed, steps⟩ w2 (RIs.new HL.out (HR.out.below B2.out)) HG.out).mono ?_
        rintro e w3 ⟨rfl, hb3⟩
        have X3 := Lib.hid (X2.out.below hb3)
        have Z3 := Lib.hid (Z2.out.below hb3)
        have B3 : Hid (Below w.heap.size w w3) := Lib.hid (B2.out.trans (hb3.mono B2.out.size))
        clear hb3
        obtain ⟨fr, hfr⟩ : ∃ fr, freeD ⟨room, L, false, armed, steps⟩ = fr := ⟨_, rfl⟩
        have HFR := Lib.hid hfr
        rw [hfr]
        clear hfr
        by_cases hfu : fr < (bs.length : Int)
        · have HV : Hid (appendD ⟨room, L, false, armed, steps⟩ n bs = (⟨room, L, false, armed, steps⟩, 30)) := Lib.hid (by unfold appendD; rw [show appE ⟨room, L, false, armed, steps⟩ n bs = 30 by unfold appE; rw [if_neg (by simp), if_neg HNP.out, if_pos (.inr (by rw [HFR.out]; exact hfu))], if_pos (by decide)])
          obtain ⟨r0, r1, r2, r3, r4, f0, f1, f2, f3, f4⟩ := X3.out
          obtain ⟨z0, z1, z2, z3, z4, g0, g1, g2, g3, g4⟩ := Z3.out
          have hlx := X3.out.lt
          have hlz := Z3.out.lt
          have RFF := Lib.hid (Z3.out.set ⟨room, [], false, armed, steps⟩ (.slice (some ⟨b, o, none⟩) m c))
          have BF := Lib.hid (B3.out.trans ((Kept.set5D w3 (w.heap.size + 1) ⟨room, [], false, armed, steps⟩ (.slice (some ⟨b, o, none⟩) m c)).below B3.out.size (fun k hk => by omega)))
          unfold set5D at RFF BF
          simp only at RFF BF
          go_wp2_with fail
          generalize (((((w3.setCell ⟨w.heap.size + 1, 0, none⟩ (.int .i64 room)).setCell ⟨w.heap.size + 1, 1, none⟩ (.slice (some ⟨b, o, none⟩) m c)).setCell ⟨w.heap.size + 1, 2, none⟩ (.bool false)).setCell ⟨w.heap.size + 1, 3, none⟩ (.int .i64 armed)).setCell ⟨w.heap.size + 1, 4, none⟩ (.int .u64 steps)) = wF at *
          obtain ⟨q0, q1, q2, q3, q4, _⟩ := RFF.out
          simp only at q0 q1 q2 q3 q4
          refine bodyPost_ret (v := .tuple #[.agg #[.int .i64 room, (.slice (some ⟨b, o, none⟩) m c), .bool false, .int .i64 armed, .int .u64 steps], .int .i64 30]) (by simp [results, Tryz.results11, go_sem, q0, q1, q2, q3, q4]) rfl ?_
          rw [HV.out]
          exact ⟨_, rfl, RIs.new (D := ⟨room, L, false, armed, steps⟩) HL.out (HR.out.below BF.out), BF.out, by first | exact fun g hg => .inl hg | (intro g hg; first | exact (F3.out g hg).imp id (fun h => by have := L3.out; omega) | (right; first | (have h5 := N6.out g hg; have h6 := L6.out; omega) | (have h5 := N5.out g hg; have h6 := L5.out; omega)))⟩
        · have HAE : Hid (appE ⟨room, L, false, armed, steps⟩ n bs = 0) := Lib.hid (by unfold appE; rw [if_neg (by simp), if_neg HNP.out, if_neg (fun h => h.elim (fun h => by rw [HF.out] at h; cases h.1) (fun h => by rw [HFR.out] at h; omega))])
          have HAP : Hid (appD ⟨room, L, false, armed, steps⟩ n bs = ⟨room, (putFile { fl with all := fl.all ++ bs } L), false, armed, steps⟩) := Lib.hid (by unfold appD; rw [getF_some HF.out])
          obtain ⟨r0, r1, r2, r3, r4, f0, f1, f2, f3, f4⟩ := X3.out
          obtain ⟨z0, z1, z2, z3, z4, g0, g1, g2, g3, g4⟩ := Z3.out
          have hlx := X3.out.lt
          have hlz := Z3.out.lt
          have y0 := Below.at B3.out FC.out.1 FL.out
          have y1 := Below.at B3.out FC.out.2.1 FL.out
          have y2 := Below.at B3.out FC.out.2.2 FL.out
          have hyl : b < w3.heap.size := Nat.lt_of_lt_of_le FL.out B3.out.size
          have hcat := strN_app fl.all bs
          have hcl : ((strN fl.all).size : Int) + ((strN bs).size : Int) ≤ 9223372036854775807 := by rw [size_strN, size_strN]; omega
          have AL : Below w3.heap.size w3 (w3.alloc (.cells #[.string fl.name, .string (strN (fl.all ++ bs)), .int .i64 (fl.kept : Nat)] 96)) := (Below.refl _ _).alloc (Nat.le_refl _) _
          have X4 := Lib.hid (X3.out.below AL)
          have Z4 := Lib.hid (Z3.out.below AL)
          have B4 := Lib.hid (B3.out.trans (AL.mono B3.out.size))
          clear AL
          go_wp2_with fail
          generalize World.alloc _ _ = w4 at *
          clear r0 r1 r2 r3 r4 f0 f1 f2 f3 f4 z0 z1 z2 z3 z4 g0 g1 g2 g3 g4 hlx hlz
          clear y0 y1 y2 hyl
          clear hcat hcl
          refine (rwith_n _ m c ⟨room, L, false, armed, steps⟩ { fl with all := fl.all ++ bs } w4 HL.out (HR.out.below B4.out) HM.out).mono ?_
          rintro e w5 ⟨a6, c6, rfl, hs6, hn6, hb6⟩
          simp only at hs6 hn6 ⊢
          have X5 := Lib.hid (X4.out.below hb6)
          have Z5 := Lib.hid (Z4.out.below hb6)
          have B5 : Hid (Below w.heap.size w w5) := Lib.hid (B4.out.trans (hb6.mono B4.out.size))
          have S6 := Lib.hid hs6
          have N6 := Lib.hid hn6
          have L6 : Hid (w.heap.size + 1 < w4.heap.size) := Lib.hid Z4.out.lt
          obtain ⟨m6, hm6⟩ : ∃ k, (putFile { fl with all := fl.all ++ bs } L).length = k := ⟨_, rfl⟩
          have HM6 := Lib.hid hm6
          rw [hm6] at S6 N6 ⊢
          clear hs6 hn6 hb6 hm6
          go_wp2_with fail
          refine (rstep_any ⟨room, (putFile { fl with all := fl.all ++ bs } L), false, armed, steps⟩ a6 m6 c6 w5 HA.out.1.1 HA.out.1.2 HA.out.2.1 HA.out.2.2).mono ?_
          rintro e w6 ⟨rfl, hb6⟩
          have X6 := Lib.hid (X5.out.below hb6)
          have Z6 := Lib.hid (Z5.out.below hb6)
          have B6 : Hid (Below w.heap.size w w6) := Lib.hid (B5.out.trans (hb6.mono B5.out.size))
          have S7 := Lib.hid (S6.out.below hb6)
          clear hb6
          obtain ⟨S, hS, hSf, hSr⟩ := stepD_eq ⟨room, (putFile { fl with all := fl.all ++ bs } L), false, armed, steps⟩
          simp only at hSf hSr
          rw [hS]
          have HS := Lib.hid hS
          have HSF := Lib.hid hSf
          have HSR := Lib.hid hSr
          clear hS hSf hSr
          obtain ⟨Sroom, SL, Sdown, Sarmed, Ssteps⟩ := S
          simp only at HSF HSR ⊢
          obtain rfl : room = Sroom := HSR.out.symm
          by_cases h0 : armed = 0
          · have hd : decide (armed ≠ 0) = false := decide_eq_false (by simpa using h0)
            have HV : Hid (appendD ⟨room, L, false, armed, steps⟩ n bs = (⟨room, SL, Sdown, Sarmed, Ssteps⟩, 50)) := Lib.hid (by unfold appendD; rw [HAE.out, if_neg (by simp), HAP.out, HS.out, stepE_eq]; simp only; rw [if_pos h0])
            rw [hd]
            clear h0
            obtain ⟨r0, r1, r2, r3, r4, f0, f1, f2, f3, f4⟩ := X6.out
            obtain ⟨z0, z1, z2, z3, z4, g0, g1, g2, g3, g4⟩ := Z6.out
            have hlx := X6.out.lt
            have hlz := Z6.out.lt
            have X7 := Lib.hid (X6.out.set ⟨room, [], Sdown, Sarmed, Ssteps⟩ (.slice a6 m6 c6))
            have KS7 := Kept.set5D w6 w.heap.size ⟨room, [], Sdown, Sarmed, Ssteps⟩ (.slice a6 m6 c6)
            have Z7 := Lib.hid (Z6.out.kept KS7 (by omega))
            have B7 := Lib.hid (B6.out.trans (KS7.below B6.out.size (fun k hk => by omega)))
            unfold set5D at X7 Z7 B7
            simp only at X7 Z7 B7
            clear KS7
            have RFF := Lib.hid (Z7.out.set ⟨room, [], Sdown, Sarmed, Ssteps⟩ (.slice a6 m6 c6))
            have BF := Lib.hid (B7.out.trans ((Kept.set5D (((((w6.setCell ⟨w.heap.size, 0, none⟩ (.int .i64 room)).setCell ⟨w.heap.size, 1, none⟩ (.slice a6 m6 c6)).setCell ⟨w.heap.size, 2, none⟩ (.bool Sdown)).setCell ⟨w.heap.size, 3, none⟩ (.int .i64 Sarmed)).setCell ⟨w.heap.size, 4, none⟩ (.int .u64 Ssteps)) (w.heap.size + 1) ⟨room, [], Sdown, Sarmed, Ssteps⟩ (.slice a6 m6 c6)).below B7.out.size (fun k hk => by omega)))
            unfold set5D at RFF BF
            simp only at RFF BF
            go_wp2_with fail
            have S8F := SRow.off (S7.out.off (Kept.set5D w6 w.heap.size ⟨room, [], Sdown, Sarmed, Ssteps⟩ (.slice a6 m6 c6)) N6.out (fun k hk => by have := L6.out; omega)) (Kept.set5D (set5D w6 w.heap.size ⟨room, [], Sdown, Sarmed, Ssteps⟩ (.slice a6 m6 c6)) (w.heap.size + 1) ⟨room, [], Sdown, Sarmed, Ssteps⟩ (.slice a6 m6 c6)) N6.out (fun k hk => by have := L6.out; omega)
            unfold set5D at S8F
            simp only at S8F
            generalize ((((((((((w6.setCell ⟨w.heap.size, 0, none⟩ (.int .i64 room)).setCell ⟨w.heap.size, 1, none⟩ (.slice a6 m6 c6)).setCell ⟨w.heap.size, 2, none⟩ (.bool Sdown)).setCell ⟨w.heap.size, 3, none⟩ (.int .i64 Sarmed)).setCell ⟨w.heap.size, 4, none⟩ (.int .u64 Ssteps)).setCell ⟨w.heap.size + 1, 0, none⟩ (.int .i64 room)).setCell ⟨w.heap.size + 1, 1, none⟩ (.slice a6 m6 c6)).setCell ⟨w.heap.size + 1, 2, none⟩ (.bool Sdown)).setCell ⟨w.heap.size + 1, 3, none⟩ (.int .i64 Sarmed)).setCell ⟨w.heap.size + 1, 4, none⟩ (.int .u64 Ssteps)) = wF at *
            obtain ⟨q0, q1, q2, q3, q4, _⟩ := RFF.out
            simp only at q0 q1 q2 q3 q4
            refine bodyPost_ret (v := .tuple #[.agg #[.int .i64 room, (.slice a6 m6 c6), .bool Sdown, .int .i64 Sarmed, .int .u64 Ssteps], .int .i64 50]) (by simp [results, Tryz.results11, go_sem, q0, q1, q2, q3, q4]) rfl ?_
            rw [HV.out]
            exact ⟨_, rfl, RIs.new (D := ⟨room, SL, Sdown, Sarmed, Ssteps⟩) (by rw [show SL = (putFile { fl with all := fl.all ++ bs } L) from HSF.out]; exact HM6.out) (by rw [show SL = (putFile { fl with all := fl.all ++ bs } L) from HSF.out]; exact S8F), BF.out, by first | exact fun g hg => .inl hg | (intro g hg; first | exact (F3.out g hg).imp id (fun h => by have := L3.out; omega) | (right; first | (have h5 := N6.out g hg; have h6 := L6.out; omega) | (have h5 := N5.out g hg; have h6 := L5.out; omega)))⟩
          · have hd : decide (armed ≠ 0) = true := decide_eq_true h0
            have HV : Hid (appendD ⟨room, L, false, armed, steps⟩ n bs = (⟨room, SL, Sdown, Sarmed, Ssteps⟩, 0)) := Lib.hid (by unfold appendD; rw [HAE.out, if_neg (by simp), HAP.out, HS.out, stepE_eq]; simp only; rw [if_neg h0])
            rw [hd]
            clear h0
            obtain ⟨r0, r1, r2, r3, r4, f0, f1, f2, f3, f4⟩ := X6.out
            obtain ⟨z0, z1, z2, z3, z4, g0, g1, g2, g3, g4⟩ := Z6.out
            have hlx := X6.out.lt
            have hlz := Z6.out.lt
            have X7 := Lib.hid (X6.out.set ⟨room, [], Sdown, Sarmed, Ssteps⟩ (.slice a6 m6 c6))
            have KS7 := Kept.set5D w6 w.heap.size ⟨room, [], Sdown, Sarmed, Ssteps⟩ (.slice a6 m6 c6)
            have Z7 := Lib.hid (Z6.out.kept KS7 (by omega))
            have B7 := Lib.hid (B6.out.trans (KS7.below B6.out.size (fun k hk => by omega)))
            unfold set5D at X7 Z7 B7
            simp only at X7 Z7 B7
            clear KS7
            have RFF := Lib.hid (Z7.out.set ⟨room, [], Sdown, Sarmed, Ssteps⟩ (.slice a6 m6 c6))
            have BF := Lib.hid (B7.out.trans ((Kept.set5D (((((w6.setCell ⟨w.heap.size, 0, none⟩ (.int .i64 room)).setCell ⟨w.heap.size, 1, none⟩ (.slice a6 m6 c6)).setCell ⟨w.heap.size, 2, none⟩ (.bool Sdown)).setCell ⟨w.heap.size, 3, none⟩ (.int .i64 Sarmed)).setCell ⟨w.heap.size, 4, none⟩ (.int .u64 Ssteps)) (w.heap.size + 1) ⟨room, [], Sdown, Sarmed, Ssteps⟩ (.slice a6 m6 c6)).below B7.out.size (fun k hk => by omega)))
            unfold set5D at RFF BF
            simp only at RFF BF
            go_wp2_with fail
            have S8F := SRow.off (S7.out.off (Kept.set5D w6 w.heap.size ⟨room, [], Sdown, Sarmed, Ssteps⟩ (.slice a6 m6 c6)) N6.out (fun k hk => by have := L6.out; omega)) (Kept.set5D (set5D w6 w.heap.size ⟨room, [], Sdown, Sarmed, Ssteps⟩ (.slice a6 m6 c6)) (w.heap.size + 1) ⟨room, [], Sdown, Sarmed, Ssteps⟩ (.slice a6 m6 c6)) N6.out (fun k hk => by have := L6.out; omega)
            unfold set5D at S8F
            simp only at S8F
            generalize ((((((((((w6.setCell ⟨w.heap.size, 0, none⟩ (.int .i64 room)).setCell ⟨w.heap.size, 1, none⟩ (.slice a6 m6 c6)).setCell ⟨w.heap.size, 2, none⟩ (.bool Sdown)).setCell ⟨w.heap.size, 3, none⟩ (.int .i64 Sarmed)).setCell ⟨w.heap.size, 4, none⟩ (.int .u64 Ssteps)).setCell ⟨w.heap.size + 1, 0, none⟩ (.int .i64 room)).setCell ⟨w.heap.size + 1, 1, none⟩ (.slice a6 m6 c6)).setCell ⟨w.heap.size + 1, 2, none⟩ (.bool Sdown)).setCell ⟨w.heap.size + 1, 3, none⟩ (.int .i64 Sarmed)).setCell ⟨w.heap.size + 1, 4, none⟩ (.int .u64 Ssteps)) = wF at *
            obtain ⟨q0, q1, q2, q3, q4, _⟩ := RFF.out
            simp only at q0 q1 q2 q3 q4
            refine bodyPost_ret (v := .tuple #[.agg #[.int .i64 room, (.slice a6 m6 c6), .bool Sdown, .int .i64 Sarmed, .int .u64 Ssteps], .int .i64 0]) (by simp [results, Tryz.results11, go_sem, q0, q1, q2, q3, q4]) rfl ?_
            rw [HV.out]
            exact ⟨_, rfl, RIs.new (D := ⟨room, SL, Sdown, Sarmed, Ssteps⟩) (by rw [show SL = (putFile { fl with all := fl.all ++ bs } L) from HSF.out]; exact HM6.out) (by rw [show SL = (putFile { fl with all := fl.all ++ bs } L) from HSF.out]; exact S8F), BF.out, by first | exact fun g hg => .inl hg | (intro g hg; first | exact (F3.out g hg).imp id (fun h => by have := L3.out; omega) | (right; first | (have h5 := N6.out g hg; have h6 := L6.out; omega) | (have h5 := N5.out g hg; have h6 := L5.out; omega)))⟩
  · have HV : Hid (appendD ⟨room, L, true, armed, steps⟩ n bs = (⟨room, L, true, armed, steps⟩, 50)) := Lib.hid (by unfold appendD; rw [show appE ⟨room, L, true, armed, steps⟩ n bs = 50 by unfold appE; rw [if_pos rfl], if_pos (by decide)])
    go_enter Tryz.func11, Tryz.ntmps11
    go_wp2_with fail
    clear BX BZ
    refine bodyPost_ret (v := .tuple #[.agg #[.int .i64 room, .slice a m c, .bool true, .int .i64 armed, .int .u64 steps], .int .i64 50]) (by simp [results, Tryz.results11, go_sem]) rfl ?_
    rw [HV.out]
    exact ⟨_, rfl, RIs.new (D := ⟨room, L, true, armed, steps⟩) HL.out (HR.out.below (((Below.refl _ _).alloc (Nat.le_refl _) _).alloc (by simp) _)), ((Below.refl _ _).alloc (Nat.le_refl _) _).alloc (by simp) _, by first | exact fun g hg => .inl hg | (intro g hg; first | exact (F3.out g hg).imp id (fun h => by have := L3.out; omega) | (right; first | (have h5 := N6.out g hg; have h6 := L6.out; omega) | (have h5 := N5.out g hg; have h6 := L5.out; omega)))⟩
theorem rappend_any (v : Value) (D : DiskS) (n : ByteArray) (bs : List Nat) (w : World) (h : RIs w v D) (hg : DGood D) (hn : n.size ≤ 9223372036854775807) (hbs : bs.length ≤ 2097152) : Calls Tryz.prog 11 #[v, .string n, .string (strN bs)] w (RPost (appendD D n bs) w) :=
  (rappend_new v D n bs w h hg hn hbs).mono fun _ _ h => h.post
end Go.Proofs.YtofhccpagnkalaaGreat

/- The document's gone; contracts; no conditions but the ranges. -/
namespace Go.Proofs.YtofhccpagnkalaaGreat
open Go.RowKit Go.Maps Go.Proofs.Own

/-- A file's row lies apart from a block whose first cells are no strings. -/
theorem SRow.far {w : World} {b N : Nat} {a : Option Addr} {n c : Nat} {L : List FileS} (h : SRow w 3 (.slice a n c) (L.map rfV)) (hb : ∀ k, k < N → ∃ x, w.cell? ⟨b, k, none⟩ = some x ∧ ∀ s, x ≠ .string s) {w' : World} (hk : ∀ g k, (g = b → N ≤ k) → w'.cell? ⟨g, k, none⟩ = w.cell? ⟨g, k, none⟩) (hsz : w.heap.size ≤ w'.heap.size) : SRow w' 3 (.slice a n c) (L.map rfV) := by
  obtain ⟨a', c', e, hl, hc⟩ := h
  cases e
  refine ⟨_, _, rfl, hl, fun j hj => ?_⟩
  obtain ⟨g, o, e, h0, h1⟩ := hc j hj
  refine ⟨g, o, e, Nat.lt_of_lt_of_le h0 hsz, fun i x hx => ?_⟩
  rw [hk g _ (fun hg => ?_)]
  · exact h1 i x hx
  · subst hg
    rw [List.length_map] at hj
    have e0 : (List.map rfV L)[j]'(by rw [List.length_map]; exact hj) = rfV L[j] := by rw [List.getElem_map]
    have hi3 : i < 3 := by rw [e0] at hx; have := (List.getElem?_eq_some_iff.1 hx).1; simpa [rfV] using this
    have s0 := h1 0 (.string L[j].name) (by rw [e0]; rfl)
    have s1 := h1 1 (.string (strN L[j].all)) (by rw [e0]; rfl)
    false_or_by_contra
    rename_i hlt
    have q0 : N ≤ o + j * 3 + 0 := by
      false_or_by_contra
      rename_i h
      obtain ⟨x, hx1, hx2⟩ := hb (o + j * 3 + 0) (by omega)
      rw [s0] at hx1
      exact hx2 _ (Option.some.inj hx1).symm
    omega
theorem RD.no {w : World} {b : Nat} {D : DiskS} {fv : Value} (k : RD w b D fv) (hfv : ∀ s, fv ≠ .string s) : ∀ i, i < 5 → ∃ x, w.cell? ⟨b, i, none⟩ = some x ∧ ∀ s, x ≠ .string s := by
  intro i hi
  match i, hi with
  | 0, _ => exact ⟨_, k.c0, fun s e => by cases e⟩
  | 1, _ => exact ⟨_, k.c1, hfv⟩
  | 2, _ => exact ⟨_, k.c2, fun s e => by cases e⟩
  | 3, _ => exact ⟨_, k.c3, fun s e => by cases e⟩
  | 4, _ => exact ⟨_, k.c4, fun s e => by cases e⟩
theorem set5D_far (w : World) (b : Nat) (D : DiskS) (fv : Value) (g k : Nat) (h : g = b → 5 ≤ k) : (set5D w b D fv).cell? ⟨g, k, none⟩ = w.cell? ⟨g, k, none⟩ := by
  unfold set5D
  have hne : ∀ i, i < 5 → (⟨b, i, none⟩ : Addr) ≠ ⟨g, k, none⟩ := by
    intro i hi e
    simp only [Addr.mk.injEq, and_true] at e
    have := h e.1.symm
    omega
  rw [World.cell?_setCell_other _ _ _ _ (hne 4 (by omega)), World.cell?_setCell_other _ _ _ _ (hne 3 (by omega)), World.cell?_setCell_other _ _ _ _ (hne 2 (by omega)), World.cell?_setCell_other _ _ _ _ (hne 1 (by omega)), World.cell?_setCell_other _ _ _ _ (hne 0 (by omega))]
theorem SRow.setD {w : World} {b : Nat} {D : DiskS} {fv : Value} {a : Option Addr} {n c : Nat} {L : List FileS} (h : SRow w 3 (.slice a n c) (L.map rfV)) (k : RD w b D fv) (hfv : ∀ s, fv ≠ .string s) (D' : DiskS) (fv' : Value) : SRow (set5D w b D' fv') 3 (.slice a n c) (L.map rfV) :=
  h.far (k.no hfv) (fun g i hg => set5D_far w b D' fv' g i hg) (Kept.set5D w b D' fv').size

set_option maxHeartbeats 4000000 in
set_option maxRecDepth 20000 in
theorem rgone_new (v : Value) (D : DiskS) (n : ByteArray) (w : World) (h : RIs w v D) (hg : DGood D) (hd : D.down = false) : Calls Tryz.prog 54 #[v, .string n] w (RPostN (vgoneD D n) v w) := by
  obtain ⟨a, c, rfl, hr⟩ := h
  obtain ⟨room, L, down, armed, steps⟩ := D
  have HG := Lib.hid hg
  simp only at hr hd ⊢
  subst hd
  have HR := Lib.hid hr
  obtain ⟨m, hlm⟩ : ∃ m, L.length = m := ⟨_, rfl⟩
  have HL := Lib.hid hlm
  rw [hlm] at HR ⊢
  have HM : Hid (L.length ≤ 1000) := Lib.hid (by have := hg.few; simp only at this; omega)
  have HA : Hid ((0 ≤ steps ∧ steps ≤ 1000000000) ∧ -1 ≤ armed ∧ armed ≤ 9223372036854775807) := Lib.hid ⟨⟨hg.wf.steps0, hg.wf.steps1⟩, hg.wf.armed0, hg.wf.armed1⟩
  have hm1000 : (m : Int) ≤ 1000 := by have := HM.out; omega
  clear hr hlm hg
  have BX := (RD.box w ⟨room, L, false, armed, steps⟩ (.slice a m c)).below ((Below.refl _ _).alloc (Nat.le_refl _) (.cells #[.int .i64 0, .slice none 0 0, .bool false, .int .i64 0, .int .u64 0] 29))
  have BZ := RD.zero (w.alloc (.cells #[.int .i64 room, .slice a m c, .bool false, .int .i64 armed, .int .u64 steps] 29))
  have hsz : (w.alloc (.cells #[.int .i64 room, .slice a m c, .bool false, .int .i64 armed, .int .u64 steps] 29)).heap.size = w.heap.size + 1 := by simp
  simp only at BX
  rw [hsz] at BZ
  have B1 : Hid (Below w.heap.size w ((w.alloc (.cells #[.int .i64 room, .slice a m c, .bool false, .int .i64 armed, .int .u64 steps] 29)).alloc (.cells #[.int .i64 0, .slice none 0 0, .bool false, .int .i64 0, .int .u64 0] 29))) := Lib.hid (((Below.refl _ _).alloc (Nat.le_refl _) _).alloc (by simp) _)
  clear hsz
  go_enter Tryz.func54, Tryz.ntmps54
  go_wp2_with fail
  generalize World.alloc (World.alloc w _) _ = w1 at *
  have X1 := Lib.hid BX
  have Z1 := Lib.hid BZ
  have LZ := BZ.lt
  clear BX BZ
  refine (rfind_any _ ⟨room, L, false, armed, steps⟩ n w1 (RIs.new HL.out (HR.out.below B1.out)) HM.out).mono ?_
  rintro e w2 ⟨rfl, hb2⟩
  have X2 := Lib.hid (X1.out.below hb2)
  have Z2 := Lib.hid (Z1.out.below hb2)
  have B2 : Hid (Below w.heap.size w w2) := Lib.hid (B1.out.trans (hb2.mono B1.out.size))
  clear hb2
  cases hf : findFile n L with
  | none =>
    have HV : Hid (vgoneD ⟨room, L, false, armed, steps⟩ n = (⟨room, L, false, armed, steps⟩, 0)) := Lib.hid (by unfold vgoneD removeD; simp only [hf]; rw [fileE_31 rfl hf]; rfl)
    have hI : findI n L = -1 := findI_none.2 hf
    rw [hI]
    clear hf hI
    obtain ⟨r0, r1, r2, r3, r4, f0, f1, f2, f3, f4⟩ := X2.out
    obtain ⟨z0, z1, z2, z3, z4, g0, g1, g2, g3, g4⟩ := Z2.out
    have hlx := X2.out.lt
    have hlz := Z2.out.lt
    have RFF := Lib.hid (Z2.out.set ⟨room, [], false, armed, steps⟩ (.slice a m c))
    have BF := Lib.hid (B2.out.trans ((Kept.set5D w2 (w.heap.size + 1) ⟨room, [], false, armed, steps⟩ (.slice a m c)).below B2.out.size (fun k hk => by omega)))
    unfold set5D at RFF BF
    simp only at RFF BF
    go_wp2_with fail
    generalize (((((w2.setCell ⟨w.heap.size + 1, 0, none⟩ (.int .i64 room)).setCell ⟨w.heap.size + 1, 1, none⟩ (.slice a m c)).setCell ⟨w.heap.size + 1, 2, none⟩ (.bool false)).setCell ⟨w.heap.size + 1, 3, none⟩ (.int .i64 armed)).setCell ⟨w.heap.size + 1, 4, none⟩ (.int .u64 steps)) = wF at *
    obtain ⟨q0, q1, q2, q3, q4, _⟩ := RFF.out
    simp only at q0 q1 q2 q3 q4
    refine bodyPost_ret (v := .tuple #[.agg #[.int .i64 room, (.slice a m c), .bool false, .int .i64 armed, .int .u64 steps], .int .i64 0]) (by simp [results, Tryz.results54, go_sem, q0, q1, q2, q3, q4]) rfl ?_
    rw [HV.out]
    exact ⟨_, rfl, RIs.new (D := ⟨room, L, false, armed, steps⟩) HL.out (HR.out.below BF.out), BF.out, by first | exact fun g hg => .inl hg | (intro g hg; first | exact (F3.out g hg).imp id (fun h => by have := L3.out; omega) | (right; first | (have h5 := N6.out g hg; have h6 := L6.out; omega) | (have h5 := N5.out g hg; have h6 := L5.out; omega)))⟩
  | some fl =>
    obtain ⟨i, hI, hLi⟩ := findI_some hf
    rw [hI]
    have hi0 : ¬ (i : Int) < 0 := by omega
    have HF := Lib.hid (show findFile n (⟨room, L, false, armed, steps⟩ : DiskS).files = some fl from hf)
    clear hf hI hLi
    obtain ⟨r0, r1, r2, r3, r4, f0, f1, f2, f3, f4⟩ := X2.out
    obtain ⟨z0, z1, z2, z3, z4, g0, g1, g2, g3, g4⟩ := Z2.out
    have hlx := X2.out.lt
    have hlz := Z2.out.lt
    go_wp2_with fail
    clear r0 r1 r2 r3 r4 f0 f1 f2 f3 f4 z0 z1 z2 z3 z4 g0 g1 g2 g3 g4 hlx hlz
    refine (rremove_new _ ⟨room, L, false, armed, steps⟩ n w2 (RIs.new HL.out (HR.out.below B2.out)) HG.out).mono ?_
    rintro e w3 ⟨v3, rfl, hr3, hb3, hf3⟩
    have X3 := Lib.hid (X2.out.below hb3)
    have Z3 := Lib.hid (Z2.out.below hb3)
    have B3 : Hid (Below w.heap.size w w3) := Lib.hid (B2.out.trans (hb3.mono B2.out.size))
    obtain ⟨a3, c3, rfl, hs3⟩ := hr3
    have S3 := Lib.hid hs3
    have F3 : Hid (∀ g, fsOwn (Value.agg #[.int .i64 (removeD ⟨room, L, false, armed, steps⟩ n).1.room, .slice a3 (removeD ⟨room, L, false, armed, steps⟩ n).1.files.length c3, .bool (removeD ⟨room, L, false, armed, steps⟩ n).1.down, .int .i64 (removeD ⟨room, L, false, armed, steps⟩ n).1.armed, .int .u64 (removeD ⟨room, L, false, armed, steps⟩ n).1.steps]) = some g → (Value.slice a m c).ownBlock = some g ∨ w2.heap.size ≤ g) := Lib.hid hf3
    have L3 : Hid (w.heap.size + 1 < w2.heap.size) := Lib.hid Z2.out.lt
    clear hb3 hs3 hf3
    have HV : Hid (vgoneD ⟨room, L, false, armed, steps⟩ n = removeD ⟨room, L, false, armed, steps⟩ n) := Lib.hid (by
      have h31 : (removeD ⟨room, L, false, armed, steps⟩ n).2 ≠ 31 := by
        unfold removeD
        rw [HF.out]
        simp only
        rw [if_neg (by simp)]
        split <;> simp
      unfold vgoneD
      rw [if_neg h31])
    obtain ⟨r, hr⟩ : ∃ r, removeD ⟨room, L, false, armed, steps⟩ n = r := ⟨_, rfl⟩
    have HRR := Lib.hid hr
    rw [hr] at S3 F3 ⊢
    obtain ⟨⟨Sroom, SL, Sdown, Sarmed, Ssteps⟩, er⟩ := r
    simp only at S3 F3 ⊢
    obtain ⟨m3, hm3⟩ : ∃ k, SL.length = k := ⟨_, rfl⟩
    have HM3 := Lib.hid hm3
    rw [hm3] at S3 F3 ⊢
    clear hr hm3
    obtain ⟨r0, r1, r2, r3, r4, f0, f1, f2, f3, f4⟩ := X3.out
    obtain ⟨z0, z1, z2, z3, z4, g0, g1, g2, g3, g4⟩ := Z3.out
    have hlx := X3.out.lt
    have hlz := Z3.out.lt
    have RFF := Lib.hid (Z3.out.set ⟨Sroom, [], Sdown, Sarmed, Ssteps⟩ (.slice a3 m3 c3))
    have BF := Lib.hid (B3.out.trans ((Kept.set5D w3 (w.heap.size + 1) ⟨Sroom, [], Sdown, Sarmed, Ssteps⟩ (.slice a3 m3 c3)).below B3.out.size (fun k hk => by omega)))
    unfold set5D at RFF BF
    simp only at RFF BF
    go_wp2_with fail
    have S3F := S3.out.setD Z3.out (fun s e => by cases e) ⟨Sroom, [], Sdown, Sarmed, Ssteps⟩ (.slice a3 m3 c3)
    unfold set5D at S3F
    simp only at S3F
    generalize (((((w3.setCell ⟨w.heap.size + 1, 0, none⟩ (.int .i64 Sroom)).setCell ⟨w.heap.size + 1, 1, none⟩ (.slice a3 m3 c3)).setCell ⟨w.heap.size + 1, 2, none⟩ (.bool Sdown)).setCell ⟨w.heap.size + 1, 3, none⟩ (.int .i64 Sarmed)).setCell ⟨w.heap.size + 1, 4, none⟩ (.int .u64 Ssteps)) = wF at *
    obtain ⟨q0, q1, q2, q3, q4, _⟩ := RFF.out
    simp only at q0 q1 q2 q3 q4
    refine bodyPost_ret (v := .tuple #[.agg #[.int .i64 Sroom, (.slice a3 m3 c3), .bool Sdown, .int .i64 Sarmed, .int .u64 Ssteps], .int .i64 (er : Nat)]) (by simp [results, Tryz.results54, go_sem, q0, q1, q2, q3, q4]) rfl ?_
    rw [HV.out, HRR.out]
    exact ⟨_, rfl, RIs.new (D := ⟨Sroom, SL, Sdown, Sarmed, Ssteps⟩) HM3.out (S3F), BF.out, by first | exact fun g hg => .inl hg | (intro g hg; first | exact (F3.out g hg).imp id (fun h => by have := L3.out; omega) | (right; first | (have h5 := N6.out g hg; have h6 := L6.out; omega) | (have h5 := N5.out g hg; have h6 := L5.out; omega)))⟩
theorem rgone_any (v : Value) (D : DiskS) (n : ByteArray) (w : World) (h : RIs w v D) (hg : DGood D) (hd : D.down = false) : Calls Tryz.prog 54 #[v, .string n] w (RPost (vgoneD D n) w) := (rgone_new v D n w h hg hd).mono fun _ _ h => h.post
end Go.Proofs.YtofhccpagnkalaaGreat
