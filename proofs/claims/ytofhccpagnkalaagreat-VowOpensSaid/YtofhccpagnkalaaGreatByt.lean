/- Rows of bytes: 'Bytes w v l': the slice v reads as the bytes l and has room for them; its cuts; no conditions. -/
import Derived.Test.YtofhccpagnkalaaGreatClone
namespace Go.Proofs.YtofhccpagnkalaaGreat
open Go.RowKit Go.Maps Go.Proofs.Own

structure Bytes (w : World) (v : Value) (l : List Nat) : Prop where
  shape : ∃ a c, v = .slice a l.length c ∧ l.length ≤ c
  rd : Reads w .u8 v (ints l)
  lt : ∀ c ∈ l, c < 256
  small : l.length ≤ 2097152

theorem Bytes.kept {w w' : World} {v : Value} {l : List Nat} {S : Nat → Prop} (h : Bytes w v l) (hk : Kept w w' S) (hs : ∀ b, v.ownBlock = some b → ¬ S b) : Bytes w' v l := ⟨h.shape, h.rd.kept hk hs, h.lt, h.small⟩
theorem Bytes.below {w w' : World} {v : Value} {l : List Nat} (h : Bytes w v l) (hb : Below w.heap.size w w') : Bytes w' v l := ⟨h.shape, h.rd.below hb, h.lt, h.small⟩
theorem Bytes.alloc {w : World} {v : Value} {l : List Nat} (h : Bytes w v l) (o : Obj) : Bytes (w.alloc o) v l := ⟨h.shape, h.rd.alloc o, h.lt, h.small⟩
theorem Bytes.drew {w : World} {v : Value} {l : List Nat} (h : Bytes w v l) : Bytes w.drew v l := ⟨h.shape, h.rd.drew, h.lt, h.small⟩
theorem Below.drewN (w : World) (n : Nat) : Below w.heap.size w (w.drewN n) := ⟨rfl, rfl, rfl, Nat.le_refl _, fun _ _ => rfl⟩
theorem Bytes.drewN {w : World} {v : Value} {l : List Nat} (h : Bytes w v l) (n : Nat) : Bytes (w.drewN n) v l := h.below (Below.drewN w n)
theorem Bytes.nil (w : World) : Bytes w (.slice none 0 0) [] := ⟨⟨none, 0, rfl, Nat.le_refl _⟩, Reads.nil _ _ _ _, nofun, Nat.zero_le _⟩
theorem Bytes.of_owns {w : World} {base : Nat} {e : TypeId} {v : Value} {l : List Nat} (h : Owns w base e .u8 v (ints l)) (hl : ∀ c ∈ l, c < 256) (hs : l.length ≤ 2097152) : Bytes w v l := by
  refine ⟨?_, h.reads, hl, hs⟩
  rcases h.2 with ⟨rfl, h0⟩ | ⟨g, cap, cur, rfl, _, _, hle, _⟩
  · rw [length_ints] at h0
    exact ⟨none, 0, by rw [h0], by omega⟩
  · rw [length_ints] at hle ⊢
    exact ⟨_, _, rfl, hle⟩
theorem Bytes.lt_block {w : World} {v : Value} {l : List Nat} (h : Bytes w v l) (hne : l ≠ []) : ∃ b, v.ownBlock = some b ∧ b < w.heap.size := by
  obtain ⟨a, c, rfl, hc⟩ := h.rd
  obtain ⟨b, o, rfl, h1⟩ := hc 0 (by rw [length_ints]; exact List.length_pos_iff.2 hne)
  exact ⟨b, rfl, World.block_lt_of_cell? _ _ h1⟩

/-- Where its bytes lie. -/
theorem Bytes.cells {w : World} {a : Option Addr} {n c : Nat} {l : List Nat} (h : Bytes w (.slice a n c) l) : n = l.length ∧ n ≤ c ∧ ∀ j (hj : j < l.length), ∃ b o, a = some ⟨b, o, none⟩ ∧ w.cell? ⟨b, o + j, none⟩ = some (.int .u8 (l[j] : Nat)) := by
  obtain ⟨a', c', h1, h2⟩ := h.shape
  cases h1
  refine ⟨rfl, h2, fun j hj => ?_⟩
  obtain ⟨a', c', h1, hc⟩ := h.rd
  obtain ⟨rfl, _⟩ : a = a' ∧ c = c' := by simp at h1; exact ⟨h1.1, h1.2.2⟩
  obtain ⟨b, o, e, h3⟩ := hc j (by rw [length_ints]; exact hj)
  exact ⟨b, o, e, by rw [h3, ints_at]⟩
/-- .. a row that is not empty lies somewhere. -/
theorem Bytes.somewhere {w : World} {v : Value} {l : List Nat} (h : Bytes w v l) (hne : 0 < l.length) : ∃ b o c, v = .slice (some ⟨b, o, none⟩) l.length c ∧ l.length ≤ c ∧ b < w.heap.size ∧ ∀ j, j < l.length → w.cell? ⟨b, o + j, none⟩ = some (.int .u8 (l.getD j 0 : Nat)) := by
  obtain ⟨a, c, rfl, hle⟩ := h.shape
  obtain ⟨_, _, hc⟩ := h.cells
  obtain ⟨b, o, rfl, h0⟩ := hc 0 hne
  refine ⟨b, o, c, rfl, hle, World.block_lt_of_cell? _ _ h0, fun j hj => ?_⟩
  obtain ⟨b', o', e, h1⟩ := hc j hj
  cases e
  rw [h1, List.getD_eq_getElem?_getD, List.getElem?_eq_getElem hj]
  rfl
theorem getD_get' {l : List Nat} {j : Nat} (h : j < l.length) : l.getD j 0 = l[j] := by simp [List.getD_eq_getElem?_getD, h]
theorem Bytes.getD_lt {w : World} {v : Value} {l : List Nat} (h : Bytes w v l) (j : Nat) : l.getD j 0 < 256 := by
  rw [List.getD_eq_getElem?_getD]
  cases e : l[j]? with
  | none => simp
  | some x => exact h.lt x (List.mem_of_getElem? e)

theorem Bytes.sliced {w : World} {a : Option Addr} {n c : Nat} {l : List Nat} (h : Bytes w (.slice a n c) l) (lo hi : Nat) (h1 : lo ≤ hi) (h2 : hi ≤ l.length) (m : Nat) (hm : hi ≤ m) (_hmc : m ≤ c) :
    ∃ a', Go.sliced a lo hi m 1 = .slice a' (hi - lo) (m - lo) ∧ Bytes w (.slice a' (hi - lo) (m - lo)) ((l.take hi).drop lo) := by
  obtain ⟨rfl, hle, hc⟩ := h.cells
  have hlen : ((l.take hi).drop lo).length = hi - lo := by simp; omega
  refine ⟨_, rfl, ⟨_, _, by rw [hlen], by omega⟩, ⟨_, _, by rw [length_ints, hlen], fun j hj => ?_⟩, fun x hx => h.lt x (List.mem_of_mem_take (List.mem_of_mem_drop hx)), by rw [hlen]; have := h.small; omega⟩
  rw [length_ints, hlen] at hj
  obtain ⟨b, o, rfl, hcell⟩ := hc (lo + j) (by omega)
  refine ⟨b, o + lo, ?_, ?_⟩
  · rw [if_neg (by omega)]
    simp [Addr.add_lit]
  · rw [Nat.add_assoc, hcell, ints_at]
    simp

theorem own_sliced (a : Option Addr) (lo hi m : Nat) (n c : Nat) : (Go.sliced a lo hi m 1).ownBlock = (Value.slice a n c).ownBlock := by
  unfold Go.sliced
  split
  · cases a <;> rfl
  · cases a with
    | none => rfl
    | some x =>
      obtain ⟨b, o, s⟩ := x
      simp only [Option.map_some, Value.ownBlock, Addr.add]
      split <;> rfl

section
variable {P : Program} {t e : TypeId} (I : IntSlice P t e .u8 1)
include I
theorem size_elem (w : World) : (sizeOf e).run P w = .ok 1 w := by
  obtain ⟨i, hi, _, h1, _⟩ := info_parts I.info
  simp [sizeOf, typeInfo, hi, h1, go_sem]
theorem elem_of : P.elem t = e := by
  simp [Program.elem, I.under]
theorem Bytes.cut {w : World} {a : Option Addr} {n c : Nat} {l : List Nat} (h : Bytes w (.slice a n c) l) (lo hi : Nat) (h1 : lo ≤ hi) (h2 : hi ≤ l.length) :
    ∃ a' c', Bytes w (.slice a' (hi - lo) c') ((l.take hi).drop lo) ∧ ∀ w', (Instr.slice t (.slice a n c) (some (.int .i64 lo)) (some (.int .i64 hi)) none).run P w' = .ok (.slice a' (hi - lo) c') w' := by
  obtain ⟨hn, hle, _⟩ := h.cells
  obtain ⟨a', e1, e2⟩ := h.sliced lo hi h1 h2 c (by omega) (Nat.le_refl _)
  refine ⟨a', c - lo, e2, fun w' => ?_⟩
  rw [run_slice_lh w' t a n c (by rw [elem_of I]; exact I.under) .i64 .i64 lo hi (by omega) (by omega) (by omega), elem_of I, size_elem I]
  simp [Result.andThen, e1]
theorem Bytes.cut_h {w : World} {a : Option Addr} {n c : Nat} {l : List Nat} (h : Bytes w (.slice a n c) l) (hi : Nat) (h2 : hi ≤ l.length) :
    ∃ a' c', Bytes w (.slice a' hi c') (l.take hi) ∧ ∀ w', (Instr.slice t (.slice a n c) none (some (.int .i64 hi)) none).run P w' = .ok (.slice a' hi c') w' := by
  obtain ⟨hn, hle, _⟩ := h.cells
  obtain ⟨a', e1, e2⟩ := h.sliced 0 hi (Nat.zero_le _) h2 c (by omega) (Nat.le_refl _)
  refine ⟨a', c, by simpa using e2, fun w' => ?_⟩
  rw [run_slice_h w' t a n c (by rw [elem_of I]; exact I.under) .i64 hi (by omega) (by omega), elem_of I, size_elem I]
  simp [Result.andThen, e1]
theorem Bytes.cut_hm {w : World} {a : Option Addr} {n c : Nat} {l : List Nat} (h : Bytes w (.slice a n c) l) (hi : Nat) (h2 : hi ≤ l.length) :
    ∃ a', Bytes w (.slice a' hi hi) (l.take hi) ∧ ∀ w', (Instr.slice t (.slice a n c) none (some (.int .i64 hi)) (some (.int .i64 hi))).run P w' = .ok (.slice a' hi hi) w' := by
  obtain ⟨hn, hle, _⟩ := h.cells
  obtain ⟨a', e1, e2⟩ := h.sliced 0 hi (Nat.zero_le _) h2 hi (by omega) (by omega)
  refine ⟨a', by simpa using e2, fun w' => ?_⟩
  rw [run_slice_hm w' t a n c (by rw [elem_of I]; exact I.under) .i64 .i64 hi hi (by omega) (by omega) (by omega), elem_of I, size_elem I]
  simp [Result.andThen, e1]
theorem Bytes.cut_hmo {w : World} {a : Option Addr} {n c : Nat} {l : List Nat} (h : Bytes w (.slice a n c) l) (hi : Nat) (h2 : hi ≤ l.length) :
    ∃ a', Bytes w (.slice a' hi hi) (l.take hi) ∧ (Value.slice a' hi hi).ownBlock = (Value.slice a n c).ownBlock ∧ ∀ w', (Instr.slice t (.slice a n c) none (some (.int .i64 hi)) (some (.int .i64 hi))).run P w' = .ok (.slice a' hi hi) w' := by
  obtain ⟨hn, hle, _⟩ := h.cells
  obtain ⟨a', e1, e2⟩ := h.sliced 0 hi (Nat.zero_le _) h2 hi (by omega) (by omega)
  refine ⟨a', by simpa using e2, ?_, fun w' => ?_⟩
  · have h := own_sliced a 0 hi hi n c
    rw [e1] at h
    simpa using h
  · rw [run_slice_hm w' t a n c (by rw [elem_of I]; exact I.under) .i64 .i64 hi hi (by omega) (by omega) (by omega), elem_of I, size_elem I]
    simp [Result.andThen, e1]
theorem Bytes.cut_l {w : World} {a : Option Addr} {n c : Nat} {l : List Nat} (h : Bytes w (.slice a n c) l) (lo : Nat) (h1 : lo ≤ l.length) :
    ∃ a' c', Bytes w (.slice a' (l.length - lo) c') (l.drop lo) ∧ ∀ w', (Instr.slice t (.slice a n c) (some (.int .i64 lo)) none none).run P w' = .ok (.slice a' (l.length - lo) c') w' := by
  obtain ⟨hn, hle, _⟩ := h.cells
  obtain ⟨a', e1, e2⟩ := h.sliced lo l.length h1 (Nat.le_refl _) c (by omega) (Nat.le_refl _)
  refine ⟨a', c - lo, by simpa using e2, fun w' => ?_⟩
  rw [run_slice_l w' t a n c (by rw [elem_of I]; exact I.under) .i64 lo (by omega) (by omega), elem_of I, size_elem I, hn]
  simp [Result.andThen, e1]
theorem Bytes.cutl {w : World} {v : Value} {l : List Nat} (h : Bytes w v l) (lo : Nat) (h1 : lo ≤ l.length) : ∃ v', Bytes w v' (l.drop lo) ∧ ∀ w', (Instr.slice t v (Option.some (Value.int .i64 lo)) none none).run P w' = .ok v' w' := by
  obtain ⟨a, c, rfl, _⟩ := h.shape
  obtain ⟨a', c', e1, e2⟩ := h.cut_l I lo h1
  exact ⟨_, e1, e2⟩
theorem Bytes.cuth {w : World} {v : Value} {l : List Nat} (h : Bytes w v l) (hi : Nat) (h1 : hi ≤ l.length) : ∃ v', Bytes w v' (l.take hi) ∧ ∀ w', (Instr.slice t v none (Option.some (Value.int .i64 hi)) none).run P w' = .ok v' w' := by
  obtain ⟨a, c, rfl, _⟩ := h.shape
  obtain ⟨a', c', e1, e2⟩ := h.cut_h I hi h1
  exact ⟨_, e1, e2⟩
theorem Bytes.cutm {w : World} {v : Value} {l : List Nat} (h : Bytes w v l) (lo hi : Nat) (h1 : lo ≤ hi) (h2 : hi ≤ l.length) : ∃ v', Bytes w v' ((l.take hi).drop lo) ∧ ∀ w', (Instr.slice t v (Option.some (Value.int .i64 lo)) (Option.some (Value.int .i64 hi)) none).run P w' = .ok v' w' := by
  obtain ⟨a, c, rfl, _⟩ := h.shape
  obtain ⟨a', c', e1, e2⟩ := h.cut I lo hi h1 h2
  exact ⟨_, e1, e2⟩
theorem Bytes.cutlo {w : World} {v : Value} {l : List Nat} (h : Bytes w v l) (lo : Nat) (h1 : lo ≤ l.length) : ∃ v', Bytes w v' (l.drop lo) ∧ v'.ownBlock = v.ownBlock ∧ ∀ w', (Instr.slice t v (Option.some (Value.int .i64 lo)) none none).run P w' = .ok v' w' := by
  obtain ⟨a, c, rfl, hle⟩ := h.shape
  obtain ⟨hn, _, _⟩ := h.cells
  obtain ⟨a', e1, e2⟩ := h.sliced lo l.length h1 (Nat.le_refl _) c (by omega) (Nat.le_refl _)
  refine ⟨Go.sliced a lo l.length c 1, by rw [e1]; simpa using e2, own_sliced _ _ _ _ _ _, fun w' => ?_⟩
  rw [run_slice_l w' t a l.length c (by rw [elem_of I]; exact I.under) .i64 lo (by omega) (by omega), elem_of I, size_elem I]
  simp [Result.andThen]
end
end Go.Proofs.YtofhccpagnkalaaGreat
