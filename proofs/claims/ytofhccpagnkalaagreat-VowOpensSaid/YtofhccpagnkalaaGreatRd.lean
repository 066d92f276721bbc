/- What a reader of numbers is, and how a number reads; no conditions. -/
import Derived.Test.YtofhccpagnkalaaGreatStab
namespace Go.Proofs.YtofhccpagnkalaaGreat
open Go.RowKit Go.Maps Go.Proofs.Own

/-- The number of bytes, the first one greatest. -/
def beN (l : List Nat) : Nat := l.foldl (fun n c => n * 256 + c) 0
theorem beN_go (l : List Nat) : ∀ n k, n < 256 ^ k → (∀ c ∈ l, c < 256) → l.foldl (fun n c => n * 256 + c) n < 256 ^ (k + l.length) := by
  induction l with
  | nil => intro n k h _; simpa using h
  | cons c l ih =>
    intro n k h hl
    have hc := hl c (by simp)
    have := ih (n * 256 + c) (k + 1) (by rw [Nat.pow_succ]; have := Nat.mul_le_mul_right 256 (show n + 1 ≤ 256 ^ k from h); omega) fun d hd => hl d (by simp [hd])
    simpa [Nat.add_assoc, Nat.add_comm 1] using this
theorem beN_lt (l : List Nat) (hl : ∀ c ∈ l, c < 256) : beN l < 256 ^ l.length := by
  have := beN_go l 0 0 (by decide) hl
  simpa [beN] using this
theorem beN_snoc (l : List Nat) (c : Nat) : beN (l ++ [c]) = beN l * 256 + c := by simp [beN, List.foldl_append]
theorem beN_take (l : List Nat) (k : Nat) (h : k < l.length) : beN (l.take (k + 1)) = beN (l.take k) * 256 + l[k] := by
  rw [List.take_succ_eq_append_getElem h, beN_snoc]

theorem or64u (a b : Nat) (ha : a < 18446744073709551616) (hb : b < 18446744073709551616) : bits .or .u64 (a : Int) (b : Int) = ((a ||| b : Nat) : Int) := by
  have hx : a ||| b < 2 ^ 64 := Nat.or_lt_two_pow (by omega) (by omega)
  have h64 : ∀ n : Nat, n < 18446744073709551616 → (BitVec.ofInt 64 (n : Int)).toNat = n := fun n hn => by
    rw [BitVec.ofInt_natCast, BitVec.toNat_ofNat]; exact Nat.mod_eq_of_lt (by omega)
  have hw : IntKind.u64.wrap ((a ||| b : Nat) : Int) = ((a ||| b : Nat) : Int) := by
    have : ∀ n : Int, IntKind.u64.wrap n = n % 18446744073709551616 := fun n => by simp [IntKind.wrap, IntKind.bits, IntKind.signed]
    rw [this]; omega
  show IntKind.u64.wrap ((BitVec.ofInt 64 (a : Int) ||| BitVec.ofInt 64 (b : Int)).toNat : Int) = _
  rw [BitVec.toNat_or, h64 a ha, h64 b hb, hw]
theorem or_byte (a c : Nat) (hc : c < 256) : a * 256 ||| c = a * 256 + c := by
  have := Nat.two_pow_add_eq_or_of_lt (i := 8) (b := c) (by omega) a
  rw [show 2 ^ 8 * a = a * 256 by omega] at this
  exact this.symm

theorem wrap_u64 (n : Int) : IntKind.u64.wrap n = n % 18446744073709551616 := by simp [IntKind.wrap, IntKind.bits, IntKind.signed]
theorem shl_or (n z : Nat) (hz : z < 256) (hn : n * 256 + z < 18446744073709551616) : bits BinOp.or .u64 (IntKind.u64.wrap ((n : Int) * 256)) (z : Int) = ((n * 256 + z : Nat) : Int) := by
  have h1 : n * 256 < 18446744073709551616 := Nat.lt_of_le_of_lt (Nat.le_add_right _ _) hn
  have h2 : z < 18446744073709551616 := Nat.lt_of_le_of_lt (Nat.le_add_left _ _) hn
  have h3 := or64u (n * 256) z h1 h2
  have hw : IntKind.u64.wrap ((n : Int) * 256) = ((n * 256 : Nat) : Int) := by
    rw [wrap_u64]
    exact Int.emod_eq_of_lt (Int.natCast_nonneg (n * 256)) (Int.ofNat_lt.2 h1)
  clear h1 h2 hn
  have h4 := or_byte n z hz
  rw [h4] at h3
  rw [hw]
  exact h3
theorem beN_small {l : List Nat} (hl : ∀ c ∈ l, c < 256) (h8 : l.length ≤ 8) : beN l < 18446744073709551616 :=
  Nat.lt_of_lt_of_le (beN_lt l hl) (Nat.le_trans (Nat.pow_le_pow_right (by decide) h8) (Nat.le_of_ble_eq_true rfl))


/-- No number begins here. -/
def numBad (l : List Nat) : Prop := 8 < l.getD 0 0 ∨ l.length ≤ l.getD 0 0 ∨ (0 < l.getD 0 0 ∧ l.getD 1 0 = 0)
instance (l : List Nat) : Decidable (numBad l) := inferInstanceAs (Decidable (_ ∨ _))
def numX (l : List Nat) : Nat := beN ((l.drop 1).take (l.getD 0 0))
def numGood (most : Nat) (l : List Nat) : Prop := ¬ numBad l ∧ numX l ≤ most
instance (most : Nat) (l : List Nat) : Decidable (numGood most l) := inferInstanceAs (Decidable (_ ∧ _))
def numV (most : Nat) (l : List Nat) : Nat := if numGood most l then numX l else 0
def numL (most : Nat) (l : List Nat) : List Nat := if numGood most l then l.drop (l.getD 0 0 + 1) else []
def numB (most : Nat) (l : List Nat) : Bool := if numGood most l then false else true
theorem numV_le (most : Nat) (l : List Nat) : numV most l ≤ most := by
  unfold numV; split
  · rename_i h; exact h.2
  · exact Nat.zero_le _
theorem numL_le (most : Nat) (l : List Nat) : (numL most l).length ≤ l.length := by
  unfold numL; split
  · rw [List.length_drop]; omega
  · simp

/-- A text follows. -/
def textGood (most : Nat) (l : List Nat) : Prop := numV most l ≤ (numL most l).length
instance (most : Nat) (l : List Nat) : Decidable (textGood most l) := inferInstanceAs (Decidable (_ ≤ _))
def textV (most : Nat) (l : List Nat) : List Nat := if textGood most l then (numL most l).take (numV most l) else []
def textL (most : Nat) (l : List Nat) : List Nat := if textGood most l then (numL most l).drop (numV most l) else []
def textB (most : Nat) (l : List Nat) : Bool := numB most l || if textGood most l then false else true
/-- The reader's end. -/
def endE (l : List Nat) (bad : Bool) : Nat := if bad = true ∨ 0 < l.length then 20 else 0

/-- Block b is a reader: what is left, and whether it is bad; rb: the block in which its bytes lie. -/
structure RdrIs (w : World) (b rb : Nat) (l : List Nat) (bad : Bool) : Prop where
  ex : ∃ v, w.cell? ⟨b, 0, none⟩ = some v ∧ Bytes w v l ∧ (l = [] ∨ v.ownBlock = some rb)
  ne : rb ≠ b
  bad : w.cell? ⟨b, 1, none⟩ = some (.bool bad)
  free0 : w.frozen? ⟨b, 0, none⟩ = false
  free1 : w.frozen? ⟨b, 1, none⟩ = false
variable {rb : Nat}
theorem RdrIs.lt {w : World} {b : Nat} {l : List Nat} {bad : Bool} (h : RdrIs w b rb l bad) : b < w.heap.size := World.block_lt_of_cell? _ _ h.bad
theorem RdrIs.below {w w' : World} {b : Nat} {l : List Nat} {bad : Bool} (h : RdrIs w b rb l bad) (hb : Below w.heap.size w w') : RdrIs w' b rb l bad := by
  obtain ⟨v, h1, h2, h3⟩ := h.ex
  have hl := h.lt
  exact ⟨⟨v, Below.at hb h1 hl, h2.below hb, h3⟩, h.ne, Below.at hb h.bad hl, by rw [hb.frozen (p := ⟨b, 0, none⟩) hl]; exact h.free0, by rw [hb.frozen (p := ⟨b, 1, none⟩) hl]; exact h.free1⟩
theorem RdrIs.st (b : Nat) (l : List Nat) (bad : Bool) : Stable fun w => RdrIs w b rb l bad := ⟨fun h hb => h.below hb⟩
theorem Bytes.keptOr {w w' : World} {v : Value} {l : List Nat} {S : Nat → Prop} (h : Bytes w v l) (hk : Kept w w' S) (hv : l = [] ∨ v.ownBlock = some rb) (hs : ¬ S rb) : Bytes w' v l := by
  rcases hv with rfl | hv
  · exact ⟨h.shape, by obtain ⟨a, c, rfl, _⟩ := h.shape; exact Reads.nil _ _ _ _, h.lt, h.small⟩
  · exact h.kept hk fun k hk' => by rw [hv] at hk'; cases hk'; exact hs
theorem RdrIs.kept {w w' : World} {b : Nat} {l : List Nat} {bad : Bool} {S : Nat → Prop} (h : RdrIs w b rb l bad) (hk : Kept w w' S) (hs : ¬ S b) (hr : ¬ S rb) : RdrIs w' b rb l bad := by
  obtain ⟨v, h1, h2, h3⟩ := h.ex
  have hl := h.lt
  exact ⟨⟨v, hk.cell h1 hs, h2.keptOr hk h3 hr, h3⟩, h.ne, hk.cell h.bad hs, by rw [hk.frozen (a := ⟨b, 0, none⟩) hl hs]; exact h.free0, by rw [hk.frozen (a := ⟨b, 1, none⟩) hl hs]; exact h.free1⟩
/-- The rest is set. -/
theorem RdrIs.set {w : World} {b : Nat} {l l' : List Nat} {bad : Bool} (h : RdrIs w b rb l bad) {v' : Value} (hB : Bytes w v' l') (hv : l' = [] ∨ v'.ownBlock = some rb) : RdrIs (w.setCell ⟨b, 0, none⟩ v') b rb l' bad := by
  obtain ⟨v, h1, _, _⟩ := h.ex
  have hk := Kept.setCell w ⟨b, 0, none⟩ v'
  refine ⟨⟨v', World.cell?_setCell_same _ _ _ h1, hB.keptOr hk hv h.ne, hv⟩, h.ne, ?_, by rw [World.frozen?_setCell]; exact h.free0, by rw [World.frozen?_setCell]; exact h.free1⟩
  rw [World.cell?_setCell_other _ _ _ _ (by simp)]
  exact h.bad
theorem RdrIs.setBad {w : World} {b : Nat} {l : List Nat} {bad : Bool} (h : RdrIs w b rb l bad) (bad' : Bool) : RdrIs (w.setCell ⟨b, 1, none⟩ (.bool bad')) b rb l bad' := by
  obtain ⟨v, h1, h2, h3⟩ := h.ex
  have hk := Kept.setCell w ⟨b, 1, none⟩ (.bool bad')
  refine ⟨⟨v, ?_, h2.keptOr hk h3 h.ne, h3⟩, h.ne, World.cell?_setCell_same _ _ _ h.bad, by rw [World.frozen?_setCell]; exact h.free0, by rw [World.frozen?_setCell]; exact h.free1⟩
  rw [World.cell?_setCell_other _ _ _ _ (by simp)]
  exact h1
end Go.Proofs.YtofhccpagnkalaaGreat
