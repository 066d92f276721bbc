/- An append to a row without room: a new row, or none; no conditions. -/
import Derived.Test.YtofhccpagnkalaaGreatFree
import Derived.Deep.Upon
namespace Go.Proofs.YtofhccpagnkalaaGreat
open Go.RowKit Go.Maps Go.Proofs.Own

def vals8 (l : List Nat) : List Value := l.map fun c : Nat => Value.int .u8 c
theorem length_vals8 (l : List Nat) : (vals8 l).length = l.length := by simp [vals8]
theorem vals8_one (l : List Nat) : ∀ u ∈ vals8 l, u.oneCell' = true := by
  intro u hu
  simp only [vals8, List.mem_map] at hu
  obtain ⟨c, _, rfl⟩ := hu
  rfl
theorem Bytes.news {w : World} {ad : Addr} {n c : Nat} {l : List Nat} (h : Bytes w (.slice (some ad) n c) l) : ∀ j u, (vals8 l)[j]? = some u → w.cell? (ad.add j) = some u := by
  intro j u hu
  have hj : j < l.length := by have := (List.getElem?_eq_some_iff.1 hu).1; rwa [length_vals8] at this
  obtain ⟨_, _, hc⟩ := h.cells
  obtain ⟨b, o, e, h1⟩ := hc j hj
  cases e
  rw [Addr.add_lit, h1]
  simp [vals8, hj] at hu
  rw [← hu]
theorem Bytes.none_nil {w : World} {n c : Nat} {l : List Nat} (h : Bytes w (.slice none n c) l) : l = [] := by
  obtain ⟨_, _, hc⟩ := h.cells
  cases l with
  | nil => rfl
  | cons x l => obtain ⟨b, o, e, _⟩ := hc 0 (by simp); cases e
theorem Bytes.src {P : Program} {t e : TypeId} (I : IntSlice P t e .u8 1) {w : World} {v : Value} {l : List Nat} (h : Bytes w v l) : Src P 1 t v l.length (vals8 l) w := by
  obtain ⟨a, c, rfl, _⟩ := h.shape
  cases a with
  | some ad => exact Src.ofSlice w I.under ad _ c _ (by rw [length_vals8, Nat.mul_one]) h.news (vals8_one l)
  | none =>
    obtain rfl := h.none_nil
    exact Src.ofNil w I.under c
theorem Bytes.first {P : Program} {w : World} {a : Option Addr} {n c : Nat} {l : List Nat} (h : Bytes w (.slice a n c) l) : (Builtin.firstCells 1 l.length (.slice a n c)).run P w = .ok (vals8 l).toArray w := by
  cases a with
  | some ad => exact run_firstCells_some w 1 l.length ad n c _ (by rw [length_vals8, Nat.mul_one]) h.news
  | none =>
    obtain rfl := h.none_nil
    exact run_firstCells_none w 1 0 n c
theorem Bytes.of_cells {w : World} {g : Nat} {cs : Array Value} {e : TypeId} {fr : Nat × Nat} {c : Nat} {l : List Nat} (hb : w.heap[g]? = some (.cells cs e fr)) (hcs : ∀ j (h : j < l.length), cs[j]? = some (.int .u8 (l[j] : Nat))) (hle : l.length ≤ c) (hl : ∀ x ∈ l, x < 256) (hs : l.length ≤ 2097152) :
    Bytes w (.slice (some ⟨g, 0, none⟩) l.length c) l := by
  refine ⟨⟨_, _, rfl, hle⟩, ⟨_, _, by rw [length_ints], fun j hj => ⟨g, 0, rfl, ?_⟩⟩, hl, hs⟩
  have hj' : j < l.length := by rwa [length_ints] at hj
  rw [ints_at, Nat.zero_add]
  simp only [World.cell?]
  rw [hb]
  exact hcs j hj'

theorem run_append_full {P : Program} {t e : TypeId} (I : IntSlice P t e .u8 1) (w : World) (ty : TypeId) (a : Option Addr) (n : Nat) (bv : Value) (l b : List Nat) (h1 : Bytes w (.slice a n n) l) (h2 : Bytes w bv b) (hs : l.length + b.length ≤ 2097152) :
    ∃ a' c' w', (Builtin.append_ #[t, t] ty #[.slice a n n, bv]).run P w = .ok (.slice a' (l.length + b.length) c') w' ∧ Bytes w' (.slice a' (l.length + b.length) c') (l ++ b) ∧ Below w.heap.size w w' ∧
      ((b = [] ∧ Value.slice a' (l.length + b.length) c' = .slice a n n) ∨ (Value.slice a' (l.length + b.length) c').ownBlock = some w.heap.size) := by
  obtain ⟨i0, hi, hz0, hz1, hz2⟩ := info_parts I.info
  obtain ⟨hn, _, _⟩ := h1.cells
  have hsrc := h2.src I
  by_cases hb0 : b = []
  · subst hb0
    have hr := run_append_nothing (P := P) w t t ty e i0 I.under hi a n n (Nat.le_refl _) bv (by rw [hz1]; exact hsrc)
    refine ⟨a, n, w, by rw [hr, hn]; rfl, by simpa [hn] using h1, Below.refl _ _, .inl ⟨rfl, by rw [hn]; rfl⟩⟩
  · have hbl : 0 < b.length := List.length_pos_iff.2 hb0
    have hf := (h1.drew).first (P := P)
    have hr := run_append_grow_src (P := P) w t t ty e i0 (.int .u8 0) I.under hi hz0 a n n (vals8 l) (by rw [hz1, ← hn] at *; exact hf) bv b.length (vals8 b) (by rw [hz1]; exact hsrc) (by omega) (by omega)
      (by rw [hz2]; exact growslice_fits (by omega) (by omega))
    refine ⟨_, _, _, by rw [hr, hn], ?_, ((Below.refl _ _).drew).alloc (Nat.le_refl _) _, .inr rfl⟩
    have hge := grownCap_ge w (n + b.length) n e
    rw [hn] at hge
    have hlen : (l ++ b).length = l.length + b.length := List.length_append
    rw [← hlen]
    refine Bytes.of_cells (heap_alloc_new w.drew _) (fun j hj => ?_) (by rw [hlen]; exact hge) (fun x hx => ?_) (by rw [hlen]; exact hs)
    · rw [Array.getElem?_append_left (by rw [List.size_toArray, List.length_append, length_vals8, length_vals8, ← hlen]; exact hj)]
      rw [List.getElem?_toArray]
      have : vals8 l ++ vals8 b = vals8 (l ++ b) := by simp [vals8]
      rw [this]
      unfold vals8
      rw [List.getElem?_map, List.getElem?_eq_getElem hj]
      rfl
    · rcases List.mem_append.1 hx with h | h
      · exact h1.lt x h
      · exact h2.lt x h

theorem wpList_append_full {P : Program} {t e : TypeId} (I : IntSlice P t e .u8 1) {ops : Array Oper} {rest : List Oper} {o : Oper} {a : Act} {Q : Exit → Act → World → Prop} {w : World} (hgd : o.guard = none) (s x : Operand)
    (ho : o.op = .call { callee := .builtin .append, args := #[s, x], argTypes := #[t, t] }) (ad : Option Addr) (n : Nat) (bv : Value) (l b : List Nat) (hs : a.eval s = .slice ad n n) (hx : a.eval x = bv) (h1 : Bytes w (.slice ad n n) l) (h2 : Bytes w bv b) (hsz : l.length + b.length ≤ 2097152)
    (hK : ∀ a' c' w', Bytes w' (.slice a' (l.length + b.length) c') (l ++ b) → Below w.heap.size w w' → ((b = [] ∧ Value.slice a' (l.length + b.length) c' = .slice ad n n) ∨ (Value.slice a' (l.length + b.length) c').ownBlock = some w.heap.size) → wpList P ops Q rest (a.put o.dst (.slice a' (l.length + b.length) c')) w') :
    wpList P ops Q (o :: rest) a w := by
  refine wpList_plain hgd fun K hK' => ?_
  obtain ⟨a', c', w', hrun, r1, r2, r3⟩ := run_append_full (P := P) I w o.type ad n bv l b h1 h2 hsz
  unfold Oper.wp execOp
  simp only [ho, resolve, invoke, builtin, Sem.run_bind, Sem.run_pure, Result.andThen_ok, List.map_toArray, List.map_cons, List.map_nil, hs, hx, hrun]
  exact hK' _ _ (hK a' c' w' r1 r2 r3)
end Go.Proofs.YtofhccpagnkalaaGreat
