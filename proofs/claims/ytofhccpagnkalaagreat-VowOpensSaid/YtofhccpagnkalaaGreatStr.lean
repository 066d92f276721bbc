/- Strings and rows of bytes; no conditions. -/
import Derived.Test.YtofhccpagnkalaaGreatByt
import Derived.Laws.BytesArg
import Derived.Lib.ConvBytes
namespace Go.Proofs.YtofhccpagnkalaaGreat
open Go.RowKit Go.Maps Go.Proofs.Own

/-- The string of bytes. -/
def strN (l : List Nat) : ByteArray := ⟨(l.map UInt8.ofNat).toArray⟩
/-- The bytes of a string. -/
def natsOf (s : ByteArray) : List Nat := s.data.toList.map UInt8.toNat
theorem natsOf_strN {l : List Nat} (h : ∀ c ∈ l, c < 256) : natsOf (strN l) = l := by
  have h1 : natsOf (strN l) = (l.map UInt8.ofNat).map UInt8.toNat := rfl
  rw [h1, List.map_map]
  conv => rhs; rw [← List.map_id l]
  exact List.map_congr_left fun c hc => by
    have := h c hc
    show (UInt8.ofNat c).toNat = c
    rw [UInt8.toNat_ofNat']
    exact Nat.mod_eq_of_lt this
theorem strN_natsOf (s : ByteArray) : strN (natsOf s) = s := by
  have : (s.data.toList.map UInt8.toNat).map UInt8.ofNat = s.data.toList := by
    rw [List.map_map]
    conv => rhs; rw [← List.map_id s.data.toList]
    exact List.map_congr_left fun c _ => UInt8.ofNat_toNat
  simp [strN, natsOf, this]
theorem strN_inj {l m : List Nat} (hl : ∀ c ∈ l, c < 256) (hm : ∀ c ∈ m, c < 256) (h : strN l = strN m) : l = m := by
  rw [← natsOf_strN hl, ← natsOf_strN hm, h]
theorem natsOf_lt (s : ByteArray) : ∀ c ∈ natsOf s, c < 256 := by
  intro c hc
  simp only [natsOf, List.mem_map] at hc
  obtain ⟨x, _, rfl⟩ := hc
  exact UInt8.toNat_lt x
theorem length_natsOf (s : ByteArray) : (natsOf s).length = s.size := by rw [natsOf, List.length_map]; rfl
theorem size_strN (l : List Nat) : (strN l).size = l.length := by show (l.map UInt8.ofNat).toArray.size = _; rw [List.size_toArray, List.length_map]
theorem strOfNums_ints (l : List Nat) : strOfNums (ints l) = strN l := by
  unfold strOfNums ints strN
  rw [List.map_map]
  congr 2

theorem Bytes.str {P : Program} {src dst e : TypeId} (hs : P.underlying src = some (.slice e)) (he : P.underlying e = some (.int .u8)) (hd : P.underlying dst = some .string) {w : World} {v : Value} {l : List Nat} (h : Bytes w v l) :
    (convert src dst v).run P w = .ok (.string (strN l)) w := by
  obtain ⟨a, c, rfl, _⟩ := h.shape
  cases a with
  | none =>
    obtain ⟨_, _, hc⟩ := h.cells
    have : l = [] := by
      cases l with
      | nil => rfl
      | cons x l => obtain ⟨b, o, e, _⟩ := hc 0 (by simp); cases e
    subst this
    rw [run_convert_bytes_nil w src e hs he _ _ dst hd]
    rfl
  | some ad =>
    obtain ⟨_, _, hc⟩ := h.cells
    by_cases h0 : l = []
    · subst h0
      rw [run_convert_bytes_string w src dst e _ _ _ hs he hd]
      have hl := run_loadCells_list (P := P) w ad [] (by simp)
      rw [show ([] : List Nat).length = ([] : List Value).length from rfl]
      rw [run_bytesToString w ad _ c [] (by simpa using hl)]
      rfl
    · obtain ⟨b, o, e0, _⟩ := hc 0 (List.length_pos_iff.2 h0)
      cases e0
      rw [← strOfNums_ints]
      refine run_convert_bytes_arg w src e hs he b o _ c (ints l) (by rw [length_ints]) (fun i hi => ?_) dst hd
      obtain ⟨b', o', e1, h1⟩ := hc i hi
      cases e1
      rw [h1]
      simp [ints, List.getD_eq_getElem?_getD, hi]
/-- .. in a later world. -/
theorem Bytes.str_below {P : Program} {src dst e : TypeId} (hs : P.underlying src = some (.slice e)) (he : P.underlying e = some (.int .u8)) (hd : P.underlying dst = some .string) {w : World} {v : Value} {l : List Nat} (h : Bytes w v l) :
    ∀ n : Nat, (convert src dst v).run P (w.drewN n) = .ok (.string (strN l)) (w.drewN n) := fun n => (h.drewN n).str hs he hd

theorem run_bytes_str {P : Program} (w : World) (src dst e : TypeId) (s : ByteArray) (hs : P.underlying src = some .string) (hd : P.underlying dst = some (.slice e)) (he : P.underlying e = some (.int .u8)) (hsz : s.size ≤ 2097152) :
    ∃ v w', (convert src dst (.string s)).run P w = .ok v w' ∧ Bytes w' v (natsOf s) ∧ Below w.heap.size w w' ∧ v.ownBlock = some w.heap.size := by
  have hge := grownCap_ge w s.size 0 e
  refine ⟨_, _, run_bytes_of_string w src dst e s hs hd he, ?_, ((Below.refl _ _).drew).alloc (Nat.le_refl _) _, rfl⟩
  generalize grownCap w s.size 0 e = c at hge
  refine ⟨⟨_, _, by rw [length_natsOf], by rw [length_natsOf]; exact hge⟩, ⟨_, _, by rw [length_ints, length_natsOf], fun j hj => ⟨w.heap.size, 0, rfl, ?_⟩⟩, natsOf_lt s, by rw [length_natsOf]; exact hsz⟩
  have hj' : j < s.data.size := by rw [length_ints, length_natsOf] at hj; exact hj
  have hb : (w.drew.alloc (.cells (bytesRow s c) e ((bytesRow s c).size, (bytesRow s c).size + 1))).heap[w.heap.size]? = some (.cells (bytesRow s c) e ((bytesRow s c).size, (bytesRow s c).size + 1)) := heap_alloc_new w.drew _
  rw [ints_at]
  have h1 : (bytesRow s c)[j]? = some (.int .u8 (s.data[j].toNat : Nat)) := by
    unfold bytesRow
    rw [Array.getElem?_append_left (by simpa using hj')]
    rw [Array.getElem?_map, Array.getElem?_eq_getElem hj']; rfl
  have h2 : (natsOf s)[j]'(by rw [length_natsOf]; exact hj') = s.data[j].toNat := by simp [natsOf]
  rw [h2, Nat.zero_add]
  simp only [World.cell?]
  rw [hb]
  exact h1

theorem str_ne {a b : ByteArray} (h : a ≠ b) : (a.toList == b.toList) = false := by
  refine beq_eq_false_iff_ne.2 fun e => h ?_
  rw [ByteArray.toList_eq, ByteArray.toList_eq] at e
  cases a; cases b
  congr
  exact Array.toList_inj.1 e
theorem str_eq_of {a b : ByteArray} (h : a = b) : (a.toList == b.toList) = true := by
  subst h; exact beq_iff_eq.2 rfl

section
variable {P : Program} {ops : Array Oper} {rest : List Oper} {o : Oper} {a : Act} {Q : Exit → Act → World → Prop} {w : World}
theorem wpList_to_bytes (hg : o.guard = none) (src dst e : TypeId) (x : Operand) (hop : o.op = Op.convert src dst x) (hs : P.underlying src = some .string) (hd : P.underlying dst = some (.slice e)) (he : P.underlying e = some (.int .u8))
    (s : ByteArray) (hx : a.eval x = .string s) (hsz : s.size ≤ 2097152)
    (hK : ∀ v w', Bytes w' v (natsOf s) → Below w.heap.size w w' → v.ownBlock = some w.heap.size → wpList P ops Q rest (a.put o.dst v) w') : wpList P ops Q (o :: rest) a w := by
  refine wpList_plain hg fun K' hK' => ?_
  obtain ⟨v, w', hrun, h1, h2, h3⟩ := run_bytes_str (P := P) w src dst e s hs hd he hsz
  unfold Oper.wp
  simp [execOp, hop, hx, hrun, Result.andThen]
  exact hK' _ _ (hK v w' h1 h2 h3)
theorem wpList_to_str (hg : o.guard = none) (src dst e : TypeId) (x : Operand) (hop : o.op = Op.convert src dst x) (hs : P.underlying src = some (.slice e)) (he : P.underlying e = some (.int .u8)) (hd : P.underlying dst = some .string)
    (v : Value) (l : List Nat) (hx : a.eval x = v) (hB : Bytes w v l)
    (hK : wpList P ops Q rest (a.put o.dst (.string (strN l))) w) : wpList P ops Q (o :: rest) a w := by
  refine wpList_plain hg fun K' hK' => ?_
  have hrun := hB.str hs he hd
  unfold Oper.wp
  simp [execOp, hop, hx, hrun, Result.andThen]
  exact hK' _ _ hK
end
end Go.Proofs.YtofhccpagnkalaaGreat
