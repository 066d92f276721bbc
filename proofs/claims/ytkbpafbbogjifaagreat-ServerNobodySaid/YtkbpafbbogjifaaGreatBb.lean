/- Several texts in one: Za, Zb, Zc, Zd, Ze, Zf, Zg, Zh. What each proves stands ahead of it. -/
import Derived.Test.YtkbpafbbogjifaaGreatBa
import Derived.Deep.AppendSrc
import Derived.Laws.StructEq
import Derived.ChangeKeysEq
import Derived.Laws.BytesString
import Derived.Laws.IdiomCopy
import Derived.Laws.MakeOwn
import Derived.Deep.MidRow
import Derived.Laws.AppendOwn
/- A runner: a program is run on values that are told by window; values, trees, memory; over any program; no conditions. -/
namespace Go.Proofs.Rn
open Go Go.RowKit Go.Proofs.Own

/-- Values. p i o: the cell o of the window i; q: a slice of a window (c: its capacity, where it is known); z: an empty slice at a row's end; m: a map. -/
inductive V where
  | i (k : IntKind) (n : Int)
  | b (b : Bool)
  | s (l : List Nat)
  | o (x : Value)
  | p (i o : Nat)
  | q (i o es n : Nat) (c : Option Nat)
  | z (i o es l : Nat)
  | m (i : Nat)
  | g (l : List V)
  | t (l : List V)
  | f (fn : Fn) (a c : List V)
  deriving Inhabited
inductive TK where
  | int (k : IntKind) | bool | str | ptr | sl (e : TypeId) | mp (k e : TypeId) | arr (n : Nat) (e : TypeId) | st (fs : List (Nat × TypeId × Nat)) | fn | o
/-- A type: cells, bytes, zero's cells, what it is, whether its rows are compared field by field. -/
structure TJ where
  n : Nat
  bt : Nat
  z : List V
  k : TK
  eq : Bool
inductive Tr (α : Type) where
  | e
  | n (l : Tr α) (v : Option α) (r : Tr α)
def Tr.get {α : Type} : Tr α → Nat → Option α
  | .e, _ => none
  | .n l v r, i => match i with
    | 0 => v
    | i+1 => match Nat.beq (i % 2) 0 with
      | true => l.get (i / 2)
      | false => r.get (i / 2)
def Tr.set {α : Type} : Nat → Tr α → Nat → α → Tr α
  | 0, t, _, _ => t
  | d+1, .e, i, x => match i with
    | 0 => .n .e (some x) .e
    | i+1 => match Nat.beq (i % 2) 0 with
      | true => .n (Tr.set d .e (i / 2) x) none .e
      | false => .n .e none (Tr.set d .e (i / 2) x)
  | d+1, .n l v r, i, x => match i with
    | 0 => .n l (some x) r
    | i+1 => match Nat.beq (i % 2) 0 with
      | true => .n (Tr.set d l (i / 2) x) v r
      | false => .n l v (Tr.set d r (i / 2) x)
def Tr.put {α : Type} (t : Tr α) (i : Nat) (x : α) : Tr α := Tr.set (i + 1) t i x
theorem Tr.get_e {α : Type} (i : Nat) : (Tr.e : Tr α).get i = none := by rw [Tr.get]
theorem Tr.get_set {α : Type} : ∀ (d : Nat) (t : Tr α) (i : Nat) (x : α), i < d → (Tr.set d t i x).get i = some x
  | 0, _, _, _, h => absurd h (Nat.not_lt_zero _)
  | d+1, .e, 0, x, _ => rfl
  | d+1, .n l v r, 0, x, _ => rfl
  | d+1, .e, i+1, x, h => by
    have hd : i / 2 < d := Nat.lt_of_le_of_lt (Nat.div_le_self i 2) (by omega)
    rw [Tr.set]
    split
    · rename_i e
      simp only [Tr.get, e]
      exact Tr.get_set d _ _ x hd
    · rename_i e
      simp only [Tr.get, e]
      exact Tr.get_set d _ _ x hd
  | d+1, .n l v r, i+1, x, h => by
    have hd : i / 2 < d := Nat.lt_of_le_of_lt (Nat.div_le_self i 2) (by omega)
    rw [Tr.set]
    split
    · rename_i e
      simp only [Tr.get, e]
      exact Tr.get_set d _ _ x hd
    · rename_i e
      simp only [Tr.get, e]
      exact Tr.get_set d _ _ x hd
theorem half_ne {i j : Nat} {b : Bool} (h : i ≠ j) (hi : Nat.beq (i % 2) 0 = b) (hj : Nat.beq (j % 2) 0 = b) : i / 2 ≠ j / 2 := fun e => h (by
  have h1 : i % 2 = j % 2 := by
    cases b
    · have a1 : i % 2 ≠ 0 := fun q => by rw [q] at hi; cases hi
      have a2 : j % 2 ≠ 0 := fun q => by rw [q] at hj; cases hj
      omega
    · rw [Nat.eq_of_beq_eq_true hi, Nat.eq_of_beq_eq_true hj]
  omega)
theorem Tr.get_set_ne {α : Type} : ∀ (d : Nat) (t : Tr α) (i : Nat) (x : α) (j : Nat), j ≠ i → (Tr.set d t i x).get j = t.get j
  | 0, _, _, _, _, _ => by rw [Tr.set]
  | d+1, .e, 0, x, j, h => by
    cases j with
    | zero => exact absurd rfl h
    | succ j => simp only [Tr.set, Tr.get]; split <;> rfl
  | d+1, .n l v r, 0, x, j, h => by
    cases j with
    | zero => exact absurd rfl h
    | succ j => simp only [Tr.set, Tr.get]
  | d+1, .e, i+1, x, j, h => by
    rw [Tr.set]
    cases j with
    | zero => split <;> simp only [Tr.get]
    | succ j =>
      split <;> rename_i e <;> simp only [Tr.get] <;> split <;> rename_i e'
      · rw [Tr.get_set_ne d _ _ x _ (half_ne (fun q => h (by rw [q])) e' e)]
        exact Tr.get_e _
      · rfl
      · rfl
      · rw [Tr.get_set_ne d _ _ x _ (half_ne (fun q => h (by rw [q])) e' e)]
        exact Tr.get_e _
  | d+1, .n l v r, i+1, x, j, h => by
    rw [Tr.set]
    cases j with
    | zero => split <;> simp only [Tr.get]
    | succ j =>
      split <;> rename_i e <;> simp only [Tr.get] <;> split <;> rename_i e'
      · exact Tr.get_set_ne d _ _ x _ (half_ne (fun q => h (by rw [q])) e' e)
      · rfl
      · rfl
      · exact Tr.get_set_ne d _ _ x _ (half_ne (fun q => h (by rw [q])) e' e)
theorem Tr.get_put {α : Type} (t : Tr α) (i : Nat) (x : α) : (t.put i x).get i = some x := Tr.get_set _ _ _ _ (Nat.lt_succ_self i)
theorem Tr.get_put_ne {α : Type} (t : Tr α) {i j : Nat} (x : α) (h : j ≠ i) : (t.put i x).get j = t.get j := Tr.get_set_ne _ _ _ _ _ h
/-- What a window shows. u: a row whose capacity is not known. -/
inductive Ent where
  | dead
  | cells (l : List V) (u : Bool)
  | map (es : List (V × V × Nat)) (clock : Nat)
  | siter (s : List Nat) (pos : Nat)
  | miter (m : Option Nat) (since : Nat) (seen : List Nat) (stepped : Nat)
structure Hp where
  n : Nat
  zn : Nat
  t : Tr Ent
  fz : List (Nat × Nat × Nat)
/-- Is a window among those that are not to be changed? some of its cells? -/
def fzHas (fz : List (Nat × Nat × Nat)) (b : Nat) : Bool := fz.any fun e => Nat.beq e.1 b
def fzHit (fz : List (Nat × Nat × Nat)) (b lo hi : Nat) : Bool := fz.any fun e => Nat.beq e.1 b && (Nat.blt e.2.1 hi && Nat.blt lo e.2.2)
def Hp.get (h : Hp) (i : Nat) : Option Ent := h.t.get i
def Hp.put (h : Hp) (i : Nat) (e : Ent) : Hp := ⟨h.n, h.zn, h.t.put i e, h.fz⟩
def Hp.new (h : Hp) (e : Ent) : Hp := ⟨h.n + 1, h.zn, h.t.put h.n e, h.fz⟩
structure St where
  tm : Tr V
  nt : Nat
  h : Hp
-- ROWS
def lget {α : Type} : List α → Nat → Option α
  | [], _ => none
  | a :: _, 0 => some a
  | _ :: l, n+1 => lget l n
def lcut {α : Type} : List α → Nat → Nat → Option (List α)
  | _, 0, 0 => some []
  | [], 0, _+1 => none
  | a :: l, 0, n+1 => match lcut l 0 n with | some r => some (a :: r) | none => none
  | [], _+1, _ => none
  | _ :: l, o+1, n => lcut l o n
def lput {α : Type} : List α → Nat → List α → List α
  | l, 0, [] => l
  | [], _, _ => []
  | _ :: l, 0, x :: r => x :: lput l 0 r
  | a :: l, o+1, r => a :: lput l o r
def repL : Nat → List V → List V
  | 0, _ => []
  | n+1, z => z ++ repL n z
theorem lget_eq {α : Type} : ∀ (l : List α) (n : Nat), lget l n = l[n]?
  | [], _ => rfl
  | _ :: _, 0 => rfl
  | a :: l, n+1 => by rw [lget, lget_eq l n]; rfl
theorem lcut_some {α : Type} : ∀ (l : List α) (o n : Nat) (r : List α), lcut l o n = some r → r.length = n ∧ o + n ≤ l.length ∧ ∀ j, j < n → r[j]? = l[o + j]?
  | l, 0, 0, r, h => by
    simp only [lcut, Option.some.injEq] at h
    subst h
    exact ⟨rfl, Nat.zero_le _, fun j hj => absurd hj (Nat.not_lt_zero j)⟩
  | [], 0, n+1, r, h => by simp [lcut] at h
  | a :: l, 0, n+1, r, h => by
    rw [lcut] at h
    split at h
    · rename_i s hs
      cases h
      obtain ⟨h1, h2, h3⟩ := lcut_some l 0 n s hs
      refine ⟨by simp [h1], by simp; omega, fun j hj => ?_⟩
      cases j with
      | zero => simp
      | succ j => have := h3 j (by omega); simpa using this
    · cases h
  | [], _+1, n, r, h => by simp [lcut] at h
  | a :: l, o+1, n, r, h => by
    rw [lcut] at h
    obtain ⟨h1, h2, h3⟩ := lcut_some l o n r h
    refine ⟨h1, by simp; omega, fun j hj => ?_⟩
    rw [h3 j hj, show o + 1 + j = o + j + 1 by omega]
    rfl
theorem lput_eq {α : Type} : ∀ (l : List α) (o : Nat) (r : List α), o + r.length ≤ l.length → lput l o r = l.take o ++ r ++ l.drop (o + r.length)
  | l, 0, [], _ => by simp [lput]
  | [], 0, _ :: _, h => by simp at h
  | _ :: l, 0, x :: r, h => by
    rw [lput, lput_eq l 0 r (by simp at h; omega)]
    simp
  | [], _+1, r, h => by
    simp only [List.length_nil] at h
    omega
  | a :: l, o+1, r, h => by
    rw [lput, lput_eq l o r (by simp at h; omega)]
    simp [show o + 1 + r.length = o + r.length + 1 by omega]
theorem lput_get {α : Type} {l : List α} {o : Nat} {r : List α} (h : o + r.length ≤ l.length) (j : Nat) : (lput l o r)[j]? = if o ≤ j ∧ j < o + r.length then r[j - o]? else l[j]? := by
  rw [lput_eq l o r h]
  have h1 : (l.take o).length = o := by rw [List.length_take]; omega
  by_cases h2 : j < o
  · rw [if_neg (by omega), List.append_assoc, List.getElem?_append_left (by omega), List.getElem?_take_of_lt h2]
  · by_cases h3 : j < o + r.length
    · rw [if_pos ⟨by omega, h3⟩, List.getElem?_append_left (by rw [List.length_append]; omega), List.getElem?_append_right (by omega), h1]
    · rw [if_neg (by omega), List.getElem?_append_right (by rw [List.length_append]; omega), List.length_append, h1, List.getElem?_drop]
      congr 1
      omega
theorem lput_length {α : Type} {l : List α} {o : Nat} {r : List α} (h : o + r.length ≤ l.length) : (lput l o r).length = l.length := by
  rw [lput_eq l o r h]
  simp only [List.length_append, List.length_take, List.length_drop]
  omega
-- WHAT A VALUE IS
structure En where
  B : Nat → Nat × Nat
  C : Nat → Nat
  Z : Nat → Addr × Nat
def mkS (l : List Nat) : ByteArray := ⟨(l.map UInt8.ofNat).toArray⟩
def En.at (E : En) (i o : Nat) : Addr := ⟨(E.B i).1, (E.B i).2 + o, none⟩
mutual
def V.den (E : En) : V → Value
  | .i k n => .int k n
  | .b x => .bool x
  | .s l => .string (mkS l)
  | .o x => x
  | .p w u => .pointer (some (E.at w u))
  | .q w u r n c => .slice (some (E.at w u)) n (match c with | some c => c | none => (E.C w - u) / r)
  | .z w u r l => .slice (some (if (E.C w - u) / r = l then E.at w u else E.at w (u + l * r))) 0 ((E.C w - u) / r - l)
  | .m w => .map (some (E.B w).1)
  | .g l => .agg (V.denL E l).toArray
  | .t l => .tuple (V.denL E l).toArray
  | .f fn a c => .func fn (V.denL E a).toArray (V.denL E c).toArray
def V.denL (E : En) : List V → List Value
  | [] => []
  | a :: l => a.den E :: V.denL E l
end
mutual
def V.wf (n zn : Nat) : V → Prop
  | .i _ _ | .b _ | .s _ | .o _ => True
  | .p j _ | .m j => j < n
  | .q j _ es _ _ => j < n ∧ 0 < es
  | .z j _ es _ => j < n ∧ 0 < es
  | .g l | .t l => V.wfL n zn l
  | .f _ a c => V.wfL n zn a ∧ V.wfL n zn c
def V.wfL (n zn : Nat) : List V → Prop
  | [] => True
  | a :: l => a.wf n zn ∧ V.wfL n zn l
end
theorem denL_eq (E : En) : ∀ l, V.denL E l = l.map (V.den E)
  | [] => by rw [V.denL]; rfl
  | a :: l => by rw [V.denL, denL_eq E l]; rfl
theorem denL_get (E : En) (l : List V) (j : Nat) : (V.denL E l)[j]? = (l[j]?).map (V.den E) := by rw [denL_eq, List.getElem?_map]
theorem denL_len (E : En) (l : List V) : (V.denL E l).length = l.length := by rw [denL_eq, List.length_map]
theorem wfL_iff {n zn : Nat} : ∀ {l : List V}, V.wfL n zn l ↔ ∀ v ∈ l, v.wf n zn
  | [] => by simp [V.wfL]
  | a :: l => by simp [V.wfL, wfL_iff (l := l)]
/-- Memory goes on: what was told of the first windows is told still. -/
structure Ext (n zn : Nat) (E E' : En) : Prop where
  B : ∀ i, i < n → E'.B i = E.B i
  C : ∀ i, i < n → E'.C i = E.C i
  Z : ∀ j, j < zn → E'.Z j = E.Z j
theorem Ext.refl (n zn : Nat) (E : En) : Ext n zn E E := ⟨fun _ _ => rfl, fun _ _ => rfl, fun _ _ => rfl⟩
theorem Ext.trans {n zn n' zn' : Nat} {E E' E'' : En} (h : Ext n zn E E') (k : Ext n' zn' E' E'') (h1 : n ≤ n') (h2 : zn ≤ zn') : Ext n zn E E'' :=
  ⟨fun i hi => (k.B i (by omega)).trans (h.B i hi), fun i hi => (k.C i (by omega)).trans (h.C i hi), fun i hi => (k.Z i (by omega)).trans (h.Z i hi)⟩
mutual
theorem V.den_ext {n zn : Nat} {E E' : En} (h : Ext n zn E E') : ∀ v : V, v.wf n zn → v.den E' = v.den E
  | .i _ _, _ | .b _, _ | .s _, _ | .o _, _ => by simp only [V.den]
  | .p j _, w => by simp only [V.wf] at w; simp only [V.den, En.at, h.B j w]
  | .q j _ _ _ _, w => by simp only [V.wf] at w; simp only [V.den, En.at, h.B j w.1, h.C j w.1]
  | .z j _ _ _, w => by simp only [V.wf] at w; simp only [V.den, En.at, h.B j w.1, h.C j w.1]
  | .m j, w => by simp only [V.wf] at w; simp only [V.den, h.B j w]
  | .g l, w => by simp only [V.wf] at w; simp only [V.den, V.denL_ext h l w]
  | .t l, w => by simp only [V.wf] at w; simp only [V.den, V.denL_ext h l w]
  | .f _ a c, w => by simp only [V.wf] at w; simp only [V.den, V.denL_ext h a w.1, V.denL_ext h c w.2]
theorem V.denL_ext {n zn : Nat} {E E' : En} (h : Ext n zn E E') : ∀ l : List V, V.wfL n zn l → V.denL E' l = V.denL E l
  | [], _ => by simp only [V.denL]
  | a :: l, w => by simp only [V.wfL] at w; simp only [V.denL, V.den_ext h a w.1, V.denL_ext h l w.2]
end
mutual
theorem V.wf_mono {n zn n' zn' : Nat} (h1 : n ≤ n') (h2 : zn ≤ zn') : ∀ v : V, v.wf n zn → v.wf n' zn'
  | .i _ _, _ | .b _, _ | .s _, _ | .o _, _ => by simp only [V.wf]
  | .p j _, w => by simp only [V.wf] at w ⊢; omega
  | .q j _ _ _ _, w => by simp only [V.wf] at w ⊢; omega
  | .z j _ _ _, w => by simp only [V.wf] at w ⊢; omega
  | .m j, w => by simp only [V.wf] at w ⊢; omega
  | .g l, w => by simp only [V.wf] at w ⊢; exact V.wfL_mono h1 h2 l w
  | .t l, w => by simp only [V.wf] at w ⊢; exact V.wfL_mono h1 h2 l w
  | .f _ a c, w => by simp only [V.wf] at w ⊢; exact ⟨V.wfL_mono h1 h2 a w.1, V.wfL_mono h1 h2 c w.2⟩
theorem V.wfL_mono {n zn n' zn' : Nat} (h1 : n ≤ n') (h2 : zn ≤ zn') : ∀ l : List V, V.wfL n zn l → V.wfL n' zn' l
  | [], _ => by simp only [V.wfL]
  | a :: l, w => by simp only [V.wfL] at w ⊢; exact ⟨V.wf_mono h1 h2 a w.1, V.wfL_mono h1 h2 l w.2⟩
end
def Ent.wf (n zn : Nat) : Ent → Prop
  | .dead | .siter _ _ => True
  | .cells l _ => V.wfL n zn l
  | .map es _ => ∀ e ∈ es, e.1.wf n zn ∧ e.2.1.wf n zn
  | .miter m _ _ _ => ∀ i, m = some i → i < n
theorem Ent.wf_mono {n zn n' zn' : Nat} (h1 : n ≤ n') (h2 : zn ≤ zn') : ∀ e : Ent, e.wf n zn → e.wf n' zn'
  | .dead, _ | .siter _ _, _ => trivial
  | .cells l _, w => V.wfL_mono h1 h2 l w
  | .map _ _, w => fun e he => ⟨V.wf_mono h1 h2 _ (w e he).1, V.wf_mono h1 h2 _ (w e he).2⟩
  | .miter _ _ _ _, w => fun i hi => Nat.lt_of_lt_of_le (w i hi) h1
def mapO (E : En) (es : List (V × V × Nat)) (clock : Nat) : Obj := .map (es.map fun e => ⟨e.1.den E, e.2.1.den E, e.2.2⟩).toArray clock
/-- A window in memory. -/
def EntOk (E : En) (n0 i : Nat) (w : World) : Ent → Prop
  | .dead => True
  | .cells l u => n0 ≤ (E.B i).1 ∧ (E.B i).1 < w.heap.size ∧ (∀ (j : Nat) v, l[j]? = some v → w.cell? (E.at i j) = some (v.den E) ∧ w.frozen? (E.at i j) = false) ∧
    (u = true → l.length ≤ E.C i ∧ ∀ j, j < E.C i → (w.cell? (E.at i j)).isSome = true ∧ w.frozen? (E.at i j) = false) ∧ (u = false → (E.B i).2 = 0)
  | .map es c => n0 ≤ (E.B i).1 ∧ w.heap[(E.B i).1]? = some (mapO E es c)
  | .siter s p => n0 ≤ (E.B i).1 ∧ (E.B i).2 = 0 ∧ w.heap[(E.B i).1]? = some (.stringIter (mkS s) p)
  | .miter m a b c => n0 ≤ (E.B i).1 ∧ (E.B i).2 = 0 ∧ w.heap[(E.B i).1]? = some (.mapIter (m.map fun i => (E.B i).1) a b.toArray c)
theorem EntOk.lt {E : En} {n0 i : Nat} {w : World} {e : Ent} (h : EntOk E n0 i w e) (hd : e ≠ .dead) : n0 ≤ (E.B i).1 ∧ (E.B i).1 < w.heap.size := by
  cases e with
  | dead => exact absurd rfl hd
  | cells l u => exact ⟨h.1, h.2.1⟩
  | map _ c => exact ⟨h.1, (Array.getElem?_eq_some_iff.1 h.2).1⟩
  | siter s p => exact ⟨h.1, (Array.getElem?_eq_some_iff.1 h.2.2).1⟩
  | miter _ a b c => exact ⟨h.1, (Array.getElem?_eq_some_iff.1 h.2.2).1⟩
/-- .. it stays where its block stays. -/
theorem EntOk.kept {E : En} {n0 i : Nat} {w w' : World} {e : Ent} (h : EntOk E n0 i w e) (hs : w.heap.size ≤ w'.heap.size) (hb : e ≠ .dead → w'.heap[(E.B i).1]? = w.heap[(E.B i).1]?) : EntOk E n0 i w' e := by
  cases e with
  | dead => exact trivial
  | cells l u =>
    have hb := hb nofun
    refine ⟨h.1, Nat.lt_of_lt_of_le h.2.1 hs, fun j v hv => ?_, fun hu => ⟨(h.2.2.2.1 hu).1, fun j hj => ?_⟩, h.2.2.2.2⟩
    · rw [World.cell?_of_block (a := E.at i j) hb, World.frozen?_of_block (a := E.at i j) hb]
      exact h.2.2.1 j v hv
    · rw [World.cell?_of_block (a := E.at i j) hb, World.frozen?_of_block (a := E.at i j) hb]
      exact (h.2.2.2.1 hu).2 j hj
  | map es c => exact ⟨h.1, (hb nofun).trans h.2⟩
  | siter s p => exact ⟨h.1, h.2.1, (hb nofun).trans h.2.2⟩
  | miter m a b c => exact ⟨h.1, h.2.1, (hb nofun).trans h.2.2⟩
theorem EntOk.ext {E E' : En} {n zn n0 i : Nat} {w : World} {e : Ent} (x : Ext n zn E E') (hi : i < n) (hw : e.wf n zn) (h : EntOk E n0 i w e) : EntOk E' n0 i w e := by
  have hB := x.B i hi
  have hA : ∀ j, E'.at i j = E.at i j := fun j => by simp only [En.at, hB]
  cases e with
  | dead => exact trivial
  | cells l u =>
    refine ⟨by rw [hB]; exact h.1, by rw [hB]; exact h.2.1, fun j v hv => ?_, fun hu => ?_, fun hu => by rw [hB]; exact h.2.2.2.2 hu⟩
    · rw [hA, V.den_ext x v (wfL_iff.1 hw v (List.mem_of_getElem? hv))]
      exact h.2.2.1 j v hv
    · rw [x.C i hi]
      exact ⟨(h.2.2.2.1 hu).1, fun j hj => by rw [hA]; exact (h.2.2.2.1 hu).2 j hj⟩
  | map es c =>
    refine ⟨by rw [hB]; exact h.1, ?_⟩
    rw [hB, h.2]
    unfold mapO
    rw [show es.map (fun e => (⟨e.1.den E', e.2.1.den E', e.2.2⟩ : MapEntry)) = es.map (fun e => ⟨e.1.den E, e.2.1.den E, e.2.2⟩) from List.map_congr_left fun e he => by rw [V.den_ext x _ (hw e he).1, V.den_ext x _ (hw e he).2]]
  | siter s p => exact ⟨by rw [hB]; exact h.1, by rw [hB]; exact h.2.1, by rw [hB]; exact h.2.2⟩
  | miter m a b c =>
    refine ⟨by rw [hB]; exact h.1, by rw [hB]; exact h.2.1, ?_⟩
    rw [hB, h.2.2]
    congr 2
    cases m with
    | none => rfl
    | some j => simp only [Option.map_some, x.B j (hw j rfl)]
structure Hp.Wf (h : Hp) : Prop where
  lt : ∀ {i e}, h.get i = some e → i < h.n
  wf : ∀ {i e}, h.get i = some e → e.wf h.n h.zn
  fzl : ∀ i ∈ h.fz, i.1 < h.n
/-- The memory of a run that began at w0. -/
structure Gd (E : En) (w0 : World) (h : Hp) (w : World) : Prop where
  bel : Below w0.heap.size w0 w
  wf : h.Wf
  ent : ∀ {i e}, h.get i = some e → EntOk E w0.heap.size i w e
  inj : ∀ {i j e f}, h.get i = some e → h.get j = some f → e ≠ .dead → f ≠ .dead → (E.B i).1 = (E.B j).1 → i = j
section
variable {E : En} {w0 w w' : World} {h : Hp}
theorem Gd.size (g : Gd E w0 h w) : w0.heap.size ≤ w.heap.size := g.bel.size
/-- A step beside all windows. -/
theorem Gd.step (g : Gd E w0 h w) (hk : Kept w w' (fun _ => False)) : Gd E w0 h w' :=
  ⟨g.bel.trans (hk.below g.size nofun), g.wf, fun hi => (g.ent hi).kept hk.size fun hd => hk.block _ (EntOk.lt (g.ent hi) hd).2 id, g.inj⟩
/-- A step on blocks of no window. -/
theorem Gd.stepS (g : Gd E w0 h w) {S : Nat → Prop} (hk : Kept w w' S) (h0 : ∀ k, S k → w0.heap.size ≤ k) (hs : ∀ {j f}, h.get j = some f → f ≠ .dead → ¬ S (E.B j).1) : Gd E w0 h w' :=
  ⟨g.bel.trans (hk.below g.size h0), g.wf, fun hi => (g.ent hi).kept hk.size fun hd => hk.block _ (EntOk.lt (g.ent hi) hd).2 (hs hi hd), g.inj⟩
/-- A window is changed. -/
theorem Gd.put (g : Gd E w0 h w) {i : Nat} {e e' : Ent} (hi : h.get i = some e) (hd : e ≠ .dead) (hk : Kept w w' (fun k => k = (E.B i).1)) (hw : e'.wf h.n h.zn) (he : EntOk E w0.heap.size i w' e') : Gd E w0 (h.put i e') w' := by
  have hlt := (g.ent hi).lt hd
  have key : ∀ {j f}, (h.put i e').get j = some f → (j = i ∧ f = e') ∨ (j ≠ i ∧ h.get j = some f) := fun {j f} hj => by
    by_cases q : j = i
    · subst q
      have : (h.put j e').get j = some e' := Tr.get_put _ _ _
      rw [this] at hj
      exact .inl ⟨rfl, (Option.some.inj hj).symm⟩
    · exact .inr ⟨q, by rw [← hj]; exact (Tr.get_put_ne _ _ q).symm⟩
  refine ⟨g.bel.trans (hk.below g.size fun k hk => hk ▸ hlt.1), ⟨fun hj => ?_, fun hj => ?_, g.wf.fzl⟩, fun {j f} hj => ?_, fun {j k f f'} hj hk' fd fd' eb => ?_⟩
  · rcases key hj with ⟨rfl, _⟩ | ⟨_, hj⟩
    · exact g.wf.lt hi
    · exact g.wf.lt hj
  · rcases key hj with ⟨rfl, rfl⟩ | ⟨_, hj⟩
    · exact hw
    · exact g.wf.wf hj
  · rcases key hj with ⟨rfl, rfl⟩ | ⟨q, hj⟩
    · exact he
    · exact (g.ent hj).kept hk.size fun fd => hk.block _ (EntOk.lt (g.ent hj) fd).2 fun eb => q (g.inj hj hi fd hd eb)
  · rcases key hj with ⟨e1, e2⟩ | ⟨q, h1⟩ <;> rcases key hk' with ⟨e3, e4⟩ | ⟨q', h2⟩
    · rw [e1, e3]
    · exact e1.trans (g.inj hi h2 hd fd' (e1 ▸ eb))
    · exact (g.inj h1 hi fd hd (e3 ▸ eb)).trans e3.symm
    · exact g.inj h1 h2 fd fd' eb
/-- A window is of no use any more. -/
theorem Gd.kill (g : Gd E w0 h w) (i : Nat) {e : Ent} (hi : h.get i = some e) : Gd E w0 (h.put i .dead) w := by
  have key : ∀ {j f}, (h.put i .dead).get j = some f → (j = i ∧ f = .dead) ∨ (j ≠ i ∧ h.get j = some f) := fun {j f} hj => by
    by_cases q : j = i
    · subst q
      have : (h.put j .dead).get j = some .dead := Tr.get_put _ _ _
      rw [this] at hj
      exact .inl ⟨rfl, (Option.some.inj hj).symm⟩
    · exact .inr ⟨q, by rw [← hj]; exact (Tr.get_put_ne _ _ q).symm⟩
  refine ⟨g.bel, ⟨fun hj => ?_, fun hj => ?_, g.wf.fzl⟩, fun {j f} hj => ?_, fun {j k f f'} hj hk' fd fd' eb => ?_⟩
  · rcases key hj with ⟨rfl, _⟩ | ⟨_, hj⟩
    · exact g.wf.lt hi
    · exact g.wf.lt hj
  · rcases key hj with ⟨rfl, rfl⟩ | ⟨_, hj⟩
    · exact trivial
    · exact g.wf.wf hj
  · rcases key hj with ⟨rfl, rfl⟩ | ⟨_, hj⟩
    · exact trivial
    · exact g.ent hj
  · rcases key hj with ⟨_, e2⟩ | ⟨q, h1⟩
    · exact absurd e2 fd
    · rcases key hk' with ⟨_, e4⟩ | ⟨q', h2⟩
      · exact absurd e4 fd'
      · exact g.inj h1 h2 fd fd' eb
def En.new (E : En) (n : Nat) (b : Nat × Nat) (c : Nat) : En := ⟨fun i => if i = n then b else E.B i, fun i => if i = n then c else E.C i, E.Z⟩
theorem En.new_ext (E : En) (n zn : Nat) (b : Nat × Nat) (c : Nat) : Ext n zn E (E.new n b c) := ⟨fun i hi => if_neg (by omega), fun i hi => if_neg (by omega), fun _ _ => rfl⟩
theorem Gd.ext (g : Gd E w0 h w) {E' : En} (x : Ext h.n h.zn E E') : Gd E' w0 h w :=
  ⟨g.bel, g.wf, fun hi => (g.ent hi).ext x (g.wf.lt hi) (g.wf.wf hi), fun {i j e f} hi hj hd hd' eb => g.inj hi hj hd hd' (by rw [← x.B i (g.wf.lt hi), ← x.B j (g.wf.lt hj)]; exact eb)⟩
/-- A new window. -/
theorem Gd.new (g : Gd E w0 h w) {e : Ent} {b : Nat × Nat} {c : Nat} (hk : Kept w w' (fun _ => False)) (hw : e.wf (h.n + 1) h.zn) (he : EntOk (E.new h.n b c) w0.heap.size h.n w' e)
    (hb : ∀ {j f}, h.get j = some f → f ≠ .dead → (E.B j).1 ≠ b.1) : Gd (E.new h.n b c) w0 (h.new e) w' := by
  have g2 := (g.step hk).ext (E.new_ext h.n h.zn b c)
  have key : ∀ {j f}, (h.new e).get j = some f → (j = h.n ∧ f = e) ∨ (j < h.n ∧ h.get j = some f) := fun {j f} hj => by
    by_cases q : j = h.n
    · subst q
      have : (h.new e).get h.n = some e := Tr.get_put _ _ _
      rw [this] at hj
      exact .inl ⟨rfl, (Option.some.inj hj).symm⟩
    · have : h.get j = some f := by rw [← hj]; exact (Tr.get_put_ne _ _ q).symm
      exact .inr ⟨g.wf.lt this, this⟩
  have hb' : ∀ {j f}, j < h.n → h.get j = some f → f ≠ .dead → ((E.new h.n b c).B j).1 ≠ ((E.new h.n b c).B h.n).1 := fun {j f} hl hj fd => by
    simp only [En.new, if_true, if_neg (show j ≠ h.n by omega)]
    exact hb hj fd
  refine ⟨g2.bel, ⟨fun {j f} hj => ?_, fun {j f} hj => ?_, fun i hi => Nat.lt_succ_of_lt (g.wf.fzl i hi)⟩, fun {j f} hj => ?_, fun {j k f f'} hj hk' fd fd' eb => ?_⟩
  · show j < h.n + 1
    rcases key hj with ⟨rfl, _⟩ | ⟨hl, _⟩ <;> omega
  · rcases key hj with ⟨rfl, rfl⟩ | ⟨_, hj⟩
    · exact hw
    · exact Ent.wf_mono (Nat.le_succ _) (Nat.le_refl _) _ (g.wf.wf hj)
  · rcases key hj with ⟨rfl, rfl⟩ | ⟨_, hj⟩
    · exact he
    · exact g2.ent hj
  · rcases key hj with ⟨e1, e2⟩ | ⟨q, h1⟩ <;> rcases key hk' with ⟨e3, e4⟩ | ⟨q', h2⟩
    · rw [e1, e3]
    · exact (hb' q' h2 fd' (e1 ▸ eb.symm)).elim
    · exact (hb' q h1 fd (e3 ▸ eb)).elim
    · exact g2.inj h1 h2 fd fd' eb
theorem Gd.fresh (g : Gd E w0 h w) {j : Nat} {f : Ent} (hj : h.get j = some f) (fd : f ≠ .dead) : (E.B j).1 ≠ w.heap.size := by
  have := (EntOk.lt (g.ent hj) fd).2
  omega
end
end Go.Proofs.Rn

/- A runner: one operation that changes no memory; over any program; no conditions. -/
namespace Go.Proofs.Rn
open Go Go.RowKit Go.Proofs.Own

def isAgg' : TK → Bool
  | .arr _ _ | .st _ => true
  | _ => false
def zeroV (i : TJ) : V := if isAgg' i.k then .g i.z else match i.z with
  | [a] => a
  | l => .g l
def bytesL (s : ByteArray) : List Nat := s.data.toList.map (·.toNat)
def constV : Value → V
  | .int k n => .i k n
  | .bool b => .b b
  | .string s => .s (bytesL s)
  | x => .o x
theorem mkS_bytesL (s : ByteArray) : mkS (bytesL s) = s := by
  cases s with
  | mk d =>
    unfold mkS bytesL
    congr 1
    rw [List.map_map, show (UInt8.ofNat ∘ fun x : UInt8 => x.toNat) = id from funext fun x => by simp]
    simp
theorem constV_den (E : En) (x : Value) : (constV x).den E = x := by
  cases x <;> simp only [constV, V.den, mkS_bytesL]
theorem constV_wf (n zn : Nat) (x : Value) : (constV x).wf n zn := by
  cases x <;> simp only [constV, V.wf]
def unV : V → Option Value
  | .i k n => some (.int k n)
  | .b b => some (.bool b)
  | .s l => some (.string (mkS l))
  | _ => none
theorem unV_den {E : En} {v : V} {x : Value} (h : unV v = some x) : v.den E = x := by
  cases v <;> simp only [unV, Option.some.injEq, reduceCtorEq] at h <;> first | (cases h; done) | (subst h; simp only [V.den])
def pureRun {α : Type} (P : Program) : Sem α → Option α
  | .pure a => some a
  | .program k => pureRun P (k P)
  | _ => none
theorem pureRun_ok {α : Type} {P : Program} : ∀ {s : Sem α} {a : α}, pureRun P s = some a → ∀ w, s.run P w = .ok a w
  | .pure b, a, h, w => by
    simp only [pureRun, Option.some.injEq] at h
    subst h; rfl
  | .program k, a, h, w => by
    rw [pureRun] at h
    exact pureRun_ok h w
  | .load .., _, h, _ | .store .., _, h, _ | .new .., _, h, _ | .shape .., _, h, _ | .freeze .., _, h, _ | .frozen .., _, h, _ | .getObj .., _, h, _ | .setObj .., _, h, _ | .choose .., _, h, _ | .sys .., _, h, _ | .mark .., _, h, _ | .halt .., _, h, _ => by simp [pureRun] at h
-- TYPES
def kOk (P : Program) : TypeDesc → TK → Prop
  | .int k, .int k' => k = k'
  | .bool, .bool => True
  | .string, .str => True
  | .pointer _, .ptr => True
  | .slice e, .sl e' => e = e'
  | .map k e, .mp k' e' => k = k' ∧ e = e'
  | .array n e, .arr n' e' => n = n' ∧ e = e'
  | .struct fs, .st l => fs.toList.mapM (fun f => (P.info? f.type).map fun i => (f.offset, f.type, i.size)) = some l
  | .func _ _ _, .fn => True
  | d, .o => d.isRow = false
  | _, _ => False
structure TyOk (P : Program) (t : TypeId) (i : TJ) : Prop where
  info : ∃ q, P.info? t = some q ∧ q.size = i.n ∧ q.bytes = i.bt
  zero : ∀ E, ∃ q, P.info? t = some q ∧ q.zero = some ((zeroV i).den E) ∧ ((zeroV i).den E).cells = (V.denL E i.z).toArray
  one : ∀ (E : En), ∀ v ∈ V.denL E i.z, v.oneCell' = true
  zwf : ∀ n zn, V.wfL n zn i.z
  zlen : i.z.length = i.n
  und : ∃ d, P.underlying t = some d ∧ kOk P d i.k
def TTok (P : Program) (tt : TypeId → Option TJ) : Prop := ∀ t i, tt t = some i → TyOk P t i
theorem kOk_row {P : Program} {d : TypeDesc} {k : TK} (h : kOk P d k) : d.isRow = isAgg' k := by
  cases d <;> cases k <;> first | rfl | exact h.elim | exact h
def oneVal : Value → Bool
  | .agg _ | .tuple _ => false
  | _ => true
def V.one : V → Bool
  | .g _ | .t _ => false
  | .o x => oneVal x
  | _ => true
def oneVL : List V → Bool
  | [] => true
  | a :: l => a.one && oneVL l
theorem V.one_den (E : En) {a : V} (h : a.one = true) : (a.den E).oneCell' = true := by
  cases a with
  | o x => cases x <;> simp_all [V.one, oneVal, V.den, Value.oneCell']
  | g l => cases h
  | t l => cases h
  | _ => simp [V.den, Value.oneCell']
theorem oneVL_den (E : En) : ∀ {l : List V}, oneVL l = true → ∀ v ∈ V.denL E l, v.oneCell' = true
  | [], _, v, hv => by simp [V.denL] at hv
  | a :: l, h, v, hv => by
    simp only [oneVL, Bool.and_eq_true] at h
    rw [V.denL] at hv
    rcases List.mem_cons.1 hv with rfl | hv
    · exact V.one_den E h.1
    · exact oneVL_den E h.2 v hv
/-- The cells of a value. -/
def V.cs : V → Option (List V)
  | .g l => if oneVL l then some l else none
  | a => if a.one then some [a] else none
theorem V.cs_den (E : En) {a : V} {l : List V} (h : a.cs = some l) : (a.den E).cells = (V.denL E l).toArray ∧ ∀ v ∈ V.denL E l, v.oneCell' = true := by
  unfold V.cs at h
  split at h
  · split at h
    · cases h
      rename_i l0 hl
      exact ⟨by simp only [V.den, Value.cells], oneVL_den E hl⟩
    · cases h
  · split at h
    · cases h
      rename_i ho
      have h1 := V.one_den E ho
      refine ⟨?_, fun v hv => ?_⟩
      · rw [V.denL, V.denL]
        generalize a.den E = x at h1
        cases x <;> first | rfl | cases h1
      · rw [V.denL, V.denL] at hv
        obtain rfl := List.mem_singleton.1 hv
        exact h1
    · cases h
theorem V.cs_wf {n zn : Nat} {a : V} {l : List V} (h : a.cs = some l) (hw : a.wf n zn) : V.wfL n zn l := by
  unfold V.cs at h
  split at h
  · split at h
    · cases h
      simpa only [V.wf] using hw
    · cases h
  · split at h
    · cases h
      simp only [V.wfL, and_true]
      exact hw
    · cases h
section
variable {P : Program} {E : En} {w : World} {r : V}
theorem TyOk.agg {t : TypeId} {i : TJ} (h : TyOk P t i) : (isAgg t).run P w = .ok (isAgg' i.k) w := by
  obtain ⟨d, h1, h2⟩ := h.und
  unfold isAgg
  rw [Sem.run_bind, run_underlying h1 w, ← kOk_row h2]
  cases d <;> simp [TypeDesc.isRow]
theorem TyOk.sizeOf {t : TypeId} {i : TJ} (h : TyOk P t i) : (Go.sizeOf t).run P w = .ok i.n w := by
  obtain ⟨q, h1, h2, _⟩ := h.info
  simp [Go.sizeOf, typeInfo, h1, h2]
theorem TyOk.zeroR {t : TypeId} {i : TJ} (h : TyOk P t i) (E : En) : (zeroValue t).run P w = .ok ((zeroV i).den E) w := by
  obtain ⟨q, h1, h2, _⟩ := h.zero E
  simp [zeroValue, typeInfo, h1, h2]
theorem TyOk.under {t : TypeId} {i : TJ} (h : TyOk P t i) : ∃ d, (underlying t).run P w = .ok d w ∧ P.underlying t = some d ∧ kOk P d i.k := by
  obtain ⟨d, h1, h2⟩ := h.und
  exact ⟨d, run_underlying h1 w, h1, h2⟩
theorem lcut_den {l r : List V} {o n : Nat} (h : lcut l o n = some r) : (V.denL E r).length = n ∧ ∀ (j : Nat) v, (V.denL E r)[j]? = some v → (V.denL E l)[o + j]? = some v := by
  obtain ⟨h1, h2, h3⟩ := lcut_some l o n r h
  refine ⟨by rw [denL_len, h1], fun j v hv => ?_⟩
  rw [denL_get] at hv ⊢
  have hj : j < n := by
    rw [← h1]
    cases e : r[j]? with
    | none => rw [e] at hv; cases hv
    | some q => exact (List.getElem?_eq_some_iff.1 e).1
  rw [← h3 j hj]
  exact hv
theorem lcut_wf {n zn : Nat} {l r : List V} {o k : Nat} (h : lcut l o k = some r) (hw : V.wfL n zn l) : V.wfL n zn r := wfL_iff.2 fun v hv => by
  obtain ⟨j, hj⟩ := List.getElem?_of_mem hv
  obtain ⟨h1, h2, h3⟩ := lcut_some l o k r h
  have hjk : j < k := by rw [← h1]; exact (List.getElem?_eq_some_iff.1 hj).1
  rw [h3 j hjk] at hj
  exact wfL_iff.1 hw v (List.mem_of_getElem? hj)
theorem lget_wf {n zn : Nat} {l : List V} {k : Nat} (h : lget l k = some r) (hw : V.wfL n zn l) : r.wf n zn := by
  rw [lget_eq] at h
  exact wfL_iff.1 hw r (List.mem_of_getElem? h)
theorem lget_den {l : List V} {k : Nat} (h : lget l k = some r) : (V.denL E l)[k]? = some (r.den E) := by
  rw [lget_eq] at h
  rw [denL_get, h]
  rfl
/-- A part of a row of cells. -/
def loadV (i : TJ) (c : List V) (o : Nat) : Option V := if isAgg' i.k then (match lcut c o i.n with | some l => some (.g l) | none => none) else lget c o
theorem loadV_wf {n zn : Nat} {i : TJ} {c : List V} {o : Nat} (h : loadV i c o = some r) (hw : V.wfL n zn c) : r.wf n zn := by
  unfold loadV at h
  split at h
  · split at h
    · rename_i l hl
      cases h
      simpa only [V.wf] using lcut_wf hl hw
    · cases h
  · exact lget_wf h hw
theorem part_ok {t : TypeId} {i : TJ} (hi : TyOk P t i) {l : List V} {k : Nat} (h : loadV i l k = some r) : (part t (V.denL E l).toArray k).run P w = .ok (r.den E) w := by
  unfold part
  rw [Sem.run_bind, hi.agg, Result.andThen_ok]
  unfold loadV at h
  split at h
  · rename_i ha
    rw [if_pos ha]
    split at h
    · rename_i q hq
      cases h
      obtain ⟨h1, h2⟩ := lcut_den (E := E) hq
      rw [Sem.run_bind, hi.sizeOf, Result.andThen_ok]
      simp only [Sem.run_pure, V.den]
      congr 2
      refine Array.ext_getElem? fun j => ?_
      rw [Array.getElem?_extract, List.getElem?_toArray, List.getElem?_toArray]
      have hc := lcut_some _ _ _ _ hq
      have hl : (V.denL E l).length = l.length := denL_len E l
      split
      · rename_i hj
        cases e : (V.denL E q)[j]? with
        | some v => exact h2 j v e
        | none =>
          have := List.getElem?_eq_none_iff.1 e
          simp at hj
          omega
      · rename_i hj
        symm
        rw [List.getElem?_eq_none_iff]
        simp at hj
        omega
    · cases h
  · rename_i ha
    rw [if_neg ha, List.getElem?_toArray, lget_den h]
    rfl
theorem load_ok {t : TypeId} {i : TJ} (hi : TyOk P t i) {c : List V} {b o : Nat} (hc : ∀ (j : Nat) v, (j = o ∨ (o ≤ j ∧ j < o + i.n)) → (V.denL E c)[j]? = some v → w.cell? (E.at b j) = some v) (h : loadV i c o = some r) : (loadVar t (E.at b o)).run P w = .ok (r.den E) w := by
  unfold loadV at h
  split at h
  · rename_i ha
    split at h
    · rename_i q hq
      cases h
      obtain ⟨h1, h2⟩ := lcut_den (E := E) hq
      obtain ⟨d, u1, u2⟩ := hi.und
      obtain ⟨qi, hq1, hq2, _⟩ := hi.info
      have := run_loadVar_mid (P := P) w (E.B b).1 ((E.B b).2 + o) t (V.denL E q) d (fun j v hv => by
        have := hc _ _ (.inr ⟨Nat.le_add_right _ _, by have := (List.getElem?_eq_some_iff.1 hv).1; omega⟩) (h2 j v hv)
        simp only [En.at] at this
        rwa [← Nat.add_assoc] at this) u1 (by rw [kOk_row u2, ha]) (by rw [hq1, Option.map_some, hq2, h1])
      simpa only [V.den, En.at] using this
    · cases h
  · rename_i ha
    unfold loadVar
    rw [Sem.run_bind, hi.agg, Result.andThen_ok, if_neg ha, run_load, hc _ _ (.inl rfl) (lget_den h)]
theorem lput_den {c l : List V} {o : Nat} (h : o + l.length ≤ c.length) : V.denL E (lput c o l) = lput (V.denL E c) o (V.denL E l) := by
  rw [lput_eq _ _ _ h, lput_eq _ _ _ (by rw [denL_len, denL_len]; exact h)]
  simp only [denL_eq, List.map_append, List.map_take, List.map_drop, List.length_map]
theorem lput_wf {n zn : Nat} {c l : List V} {o : Nat} (h : o + l.length ≤ c.length) (h1 : V.wfL n zn c) (h2 : V.wfL n zn l) : V.wfL n zn (lput c o l) := wfL_iff.2 fun v hv => by
  rw [lput_eq _ _ _ h] at hv
  rcases List.mem_append.1 hv with hv | hv
  · rcases List.mem_append.1 hv with hv | hv
    · exact wfL_iff.1 h1 v (List.mem_of_mem_take hv)
    · exact wfL_iff.1 h2 v hv
  · exact wfL_iff.1 h1 v (List.mem_of_mem_drop hv)
theorem lput_cons {c : List Value} {o : Nat} {x : Value} {l : List Value} (h : o + (l.length + 1) ≤ c.length) : lput c o (x :: l) = lput (c.set o x) (o + 1) l := by
  rw [lput_eq _ _ _ (by simpa using h), lput_eq _ _ _ (by rw [List.length_set]; omega), List.take_add_one, List.take_set_of_le (Nat.le_refl o), List.getElem?_set_self (by omega)]
  simp only [Option.toList_some, List.append_assoc, List.singleton_append, List.length_cons]
  congr 2
  rw [List.drop_set_of_lt (by omega), show o + 1 + l.length = o + (l.length + 1) by omega]
theorem foldl_put (o : Nat) : ∀ (l : List Value) (k : Nat) (c : List Value), o + k + l.length ≤ c.length → (l.zipIdx k).foldl (fun cs (p : Value × Nat) => cs.setIfInBounds (o + p.2) p.1) c.toArray = (lput c (o + k) l).toArray
  | [], k, c, h => by rw [lput_eq _ _ _ (by simpa using h)]; simp
  | x :: l, k, c, h => by
    simp only [List.length_cons] at h
    rw [List.zipIdx_cons, List.foldl_cons, List.setIfInBounds_toArray, foldl_put o l (k + 1) _ (by rw [List.length_set]; omega), lput_cons (by omega)]
    rw [Nat.add_assoc]
/-- Parts are laid into a row of cells. -/
def fillV (place : Nat → Option (Nat × Nat)) (ev : Operand → V) : List V → List (Nat × Operand) → Option (List V)
  | c, [] => some c
  | c, (j, x) :: r => match place j with
    | some (o, n) => match (ev x).cs with
      | some l => if l.length == n && Nat.ble (o + l.length) c.length then fillV place ev (lput c o l) r else none
      | none => none
    | none => none
variable {ev : Operand → V} {ρ : Operand → Value}
theorem fillV_ok (hr : ∀ x, ρ x = (ev x).den E) {pl : Nat → Option (Nat × Nat)} : ∀ (l : List (Nat × Operand)) (c q : List V), fillV pl ev c l = some q → Instr.fill pl (V.denL E c).toArray (l.map fun p => (p.1, ρ p.2)) = some (V.denL E q).toArray
  | [], c, q, h => by cases h; rfl
  | (j, x) :: l, c, q, h => by
    rw [fillV] at h
    split at h
    · rename_i o n hn
      split at h
      · rename_i m hm
        split at h
        · rename_i hc
          simp only [Bool.and_eq_true, beq_iff_eq, Nat.ble_eq] at hc
          have ih := fillV_ok hr l _ _ h
          rw [List.map_cons, Instr.fill]
          have hcs := (V.cs_den E hm).1
          have hl := denL_len E m
          have hlc := denL_len E c
          simp only [hn, hr, hcs]
          rw [if_neg (by simp only [List.size_toArray, hl, hlc, hc.1, Bool.or_eq_true, decide_eq_true_eq, ne_eq, not_true_eq_false, false_or]; omega)]
          rw [lput_den hc.2] at ih
          have := foldl_put o (V.denL E m) 0 (V.denL E c) (by omega)
          simp only [hr] at ih
          rw [← Array.foldl_toList, Array.toList_zipIdx]
          simp only [Nat.add_zero] at this
          rw [← ih, ← this]
        · cases h
      · cases h
    · cases h
theorem fillV_wf {n zn : Nat} (hw : ∀ x, (ev x).wf n zn) {pl : Nat → Option (Nat × Nat)} : ∀ (l : List (Nat × Operand)) (c q : List V), fillV pl ev c l = some q → V.wfL n zn c → V.wfL n zn q
  | [], c, q, h, hc => by cases h; exact hc
  | (j, x) :: l, c, q, h, hc => by
    rw [fillV] at h
    split at h
    · split at h
      · rename_i m hm
        split at h
        · rename_i hb
          simp only [Bool.and_eq_true, beq_iff_eq, Nat.ble_eq] at hb
          exact fillV_wf hw l _ _ h (lput_wf hb.2 hc (V.cs_wf hm (hw x)))
        · cases h
      · cases h
    · cases h
end
end Go.Proofs.Rn

/- A runner: the operations that change no memory; over any program; no conditions. -/
namespace Go.Proofs.Rn
open Go Go.RowKit Go.Proofs.Own

def asN : V → Option Nat
  | .i _ (.ofNat n) => some n
  | _ => none
/-- Two cells of one kind. -/
def eq1 : TK → V → V → Option Bool
  | .int _, .i k a, .i k' b => if k = k' then some (a == b) else none
  | .bool, .b a, .b b => some (a == b)
  | .str, .s a, .s b => some ((mkS a).toList == (mkS b).toList)
  | _, _, _ => none
def eqL (tt : TypeId → Option TJ) (l m : List V) : List (Nat × TypeId × Nat) → Option Bool
  | [] => some true
  | (o, t, _) :: r => match tt t, lget l o, lget m o with
    | some i, some x, some y => match eq1 i.k x y with
      | some true => eqL tt l m r
      | q => q
    | _, _, _ => none
/-- Two rows of cells of one kind. -/
def eqR (k : TK) : List V → List V → Option Bool
  | [], [] => some true
  | a :: l, b :: m => match eq1 k a b with
    | some true => eqR k l m
    | q => q
  | _, _ => none
def nilEq (tt : TypeId → Option TJ) (k : TK) (x y : V) : Option Bool := match k with
  | .ptr => match x, y with
    | .p _ _, .o (.pointer none) => some false
    | .o (.pointer none), .p _ _ => some false
    | .o (.pointer none), .o (.pointer none) => some true
    | _, _ => none
  | .sl _ => match x, y with
    | .q _ _ _ _ _, .o (.slice none _ _) => some false
    | .z _ _ _ _, .o (.slice none _ _) => some false
    | .o (.slice none _ _), .o (.slice none _ _) => some true
    | _, _ => none
  | .mp _ _ => match x, y with
    | .m _, .o (.map none) => some false
    | .o (.map none), .o (.map none) => some true
    | _, _ => none
  | .fn => match x, y with
    | .f _ _ _, .o .nilFunc => some false
    | .o .nilFunc, .o .nilFunc => some true
    | _, _ => none
  | .st fs => match x, y with
    | .g l, .g m => eqL tt l m fs
    | _, _ => none
  | .arr n e => match x, y, tt e with
    | .g l, .g m, some i => match Nat.beq l.length n, Nat.beq i.n 1 with
      | true, true => eqR i.k l m
      | _, _ => none
    | _, _, _ => none
  | k => eq1 k x y
def nilEqG (tt : TypeId → Option TJ) (i : TJ) (x y : V) : Option Bool := match !isAgg' i.k || i.eq with
  | true => nilEq tt i.k x y
  | false => none
def evBin (P : Program) (tt : TypeId → Option TJ) (op : BinOp) (t : TypeId) (x y : V) : Option V := match op, x, y with
  | .eql, x, y => match tt t with
    | some i => match nilEqG tt i x y with
      | some b => some (.b b)
      | none => none
    | none => none
  | .neq, x, y => match tt t with
    | some i => match nilEqG tt i x y with
      | some b => some (.b !b)
      | none => none
    | none => none
  | op, .i k a, .i k' b => match pureRun P (Go.binOp op t (.int k a) (.int k' b)) with
    | some r => some (constV r)
    | none => none
  | op, .s a, .s b => match pureRun P (Op.stringOp op (mkS a) (mkS b)) with
    | some r => some (constV r)
    | none => none
  | _, _, _ => none
def keyFind (kd : TK) (k : V) : List (V × V × Nat) → Nat → Option (Option (Nat × V))
  | [], _ => some none
  | (a, v, _) :: r, i => match kd, k, a with
    | .int _, .i kk x, .i k' y => if kk = k' then (match x == y with
      | true => some (some (i, v))
      | false => keyFind kd k r (i + 1)) else none
    | .str, .s x, .s y => match mkS x == mkS y with
      | true => some (some (i, v))
      | false => keyFind kd k r (i + 1)
    | _, _, _ => none
def unL : List V → Option (List Value)
  | [] => some []
  | v :: l => match unV v, unL l with
    | some x, some r => some (x :: r)
    | _, _ => none
def u8L : List V → Option (List Nat)
  | [] => some []
  | .i .u8 (.ofNat n) :: l => match u8L l with
    | some r => some (n :: r)
    | none => none
  | _ => none
section
variable (P : Program) (tt : TypeId → Option TJ) (look lens : Nat → Option Ent) (ev : Operand → V)
def sliceQ (x : V) (lo hi mx : Option V) (es : Nat) : Option V := match x with
  | .o (.slice none 0 0) => match lo.elim (some 0) asN, hi.elim (some 0) asN, mx.elim (some 0) asN with
    | some 0, some 0, some 0 => some (.o (.slice none 0 0))
    | _, _, _ => none
  | .q i o es' n c => if es' = es then (match lo.elim (some 0) asN, hi.elim (some n) asN with
    | some l, some h => match mx, c with
      | none, some cc => if Nat.ble l h && Nat.ble h cc then some (.q i (if cc = l then o else o + l * es) es (h - l) (some (cc - l))) else none
      | some m, some cc => match asN m with
        | some m => if Nat.ble l h && Nat.ble h m && Nat.ble m cc then some (.q i (if m = l then o else o + l * es) es (h - l) (some (m - l))) else none
        | none => none
      | none, none => match lens i with
        | some (.cells cl true) => match Nat.ble l h && Nat.ble (o + h * es) cl.length with
          | true => match Nat.ble (o + (l + 1) * es) cl.length with
            | true => some (.q i (o + l * es) es (h - l) none)
            | false => match Nat.beq l h with
              | true => some (.z i o es l)
              | false => none
          | false => none
        | _ => none
      | some m, none => match asN m, lens i with
        | some m, some (.cells cl true) => if Nat.ble l h && Nat.ble h m && Nat.ble (o + m * es) cl.length then some (.q i (if m = l then o else o + l * es) es (h - l) (some (m - l))) else none
        | _, _ => none
    | _, _ => none) else none
  | _ => none
def evQ : Op → Option V
  | .move x | .assign x => some (ev x)
  | .pick c a b => match ev c with
    | .b true => some (ev a)
    | .b false => some (ev b)
    | _ => none
  | .build t ps => match tt t with
    | some i => match i.k with
      | .st fs => match fillV (fun j => (lget fs j).map fun f => (f.1, f.2.2)) ev i.z ps.toList with
        | some l => some (.g l)
        | none => none
      | .arr _ e => match tt e with
        | some ei => match fillV (fun j => some (j * ei.n, ei.n)) ev i.z ps.toList with
          | some l => some (.g l)
          | none => none
        | none => none
      | _ => none
    | none => none
  | .load t x => match ev x with
    | .p b o => match tt t, look b with
      | some i, some (.cells c _) => loadV i c o
      | _, _ => none
    | _ => none
  | .fieldAddr t x j => match ev x with
    | .p b o => match tt t with
      | some i => match i.k with
        | .st fs => match lget fs j with
          | some (k, _, n) => match n with
            | 0 => none
            | _ => some (.p b (o + k))
          | none => none
        | _ => none
      | none => none
    | _ => none
  | .field t x j => match ev x with
    | .g l => match tt t with
      | some i => match i.k with
        | .st fs => match lget fs j with
          | some (k, ft, _) => match tt ft with
            | some fi => loadV fi l k
            | none => none
          | none => none
        | _ => none
      | none => none
    | _ => none
  | .extract x j => match ev x with
    | .t l => lget l j
    | _ => none
  | .nilCheck x => match ev x with
    | .p b o => some (.p b o)
    | .f (.func f) a c => some (.f (.func f) a c)
    | _ => none
  | .binOp op t x y _ => evBin P tt op t (ev x) (ev y)
  | .unOp op _ x => match unV (ev x) with
    | some a => match pureRun P (Op.unary op a) with
      | some r => some (constV r)
      | none => none
    | none => none
  | .convert t u x => match tt t, tt u with
    | some i, some j => match j.k with
      | .int k => match ev x with
        | .i _ n => some (.i k (k.wrap n))
        | _ => none
      | .str => match i.k, ev x with
        | .str, .s l => some (.s l)
        | .sl e, .o (.slice none _ _) => match tt e with
          | some ei => match ei.k with
            | .int .u8 => some (.s [])
            | _ => none
          | none => none
        | .sl e, .q i o es n _ => match tt e, look i with
          | some ei, some (.cells c _) => match ei.k, es, lcut c o n with
            | .int .u8, 1, some l => match u8L l with
              | some l => some (.s l)
              | none => none
            | _, _, _ => none
          | _, _ => none
        | _, _ => none
      | _ => none
    | _, _ => none
  | .makeFunc fn a c => some (.f fn (a.toList.map ev) (c.toList.map ev))
  | .indexAddr t x ix => match tt t, asN (ev ix) with
    | some i, some n => match i.k, ev x with
      | .arr len e, .p b o => match tt e with
        | some ei => if Nat.blt n len then some (.p b (o + n * ei.n)) else none
        | none => none
      | .sl e, .q b o es len _ => match tt e with
        | some ei => if Nat.blt n len && Nat.beq es ei.n then some (.p b (o + n * es)) else none
        | none => none
      | _, _ => none
    | _, _ => none
  | .index t x ix => match tt t, asN (ev ix) with
    | some i, some n => match i.k, ev x with
      | .arr len e, .g l => match tt e with
        | some ei => if Nat.blt n len then loadV ei l (n * ei.n) else none
        | none => none
      | .str, .s l => match lget l n with
        | some b => if Nat.blt b 256 then some (.i .u8 b) else none
        | none => none
      | _, _ => none
    | _, _ => none
  | .slice t x lo hi mx => match tt t with
    | some i => match i.k with
      | .sl e => match tt e with
        | some ei => sliceQ lens (ev x) (lo.map ev) (hi.map ev) (mx.map ev) ei.n
        | none => none
      | .arr n e => match tt e, ev x with
        | some ei, .p b o => match mx, (lo.map ev).elim (some 0) asN, (hi.map ev).elim (some n) asN with
          | none, some l, some h => if Nat.ble l h && Nat.ble h n && Nat.blt 0 ei.n then some (.q b (if n = l then o else o + l * ei.n) ei.n (h - l) (some (n - l))) else none
          | _, _, _ => none
        | _, _ => none
      | .str => match ev x, mx, (lo.map ev).elim (some 0) asN with
        | .s s, none, some l => match (hi.map ev).elim (some s.length) asN with
          | some h => if Nat.ble l h && Nat.ble h s.length then some (.s ((s.drop l).take (h - l))) else none
          | none => none
        | _, _, _ => none
      | _ => none
    | none => none
  | .lookup t x ix ok => match tt t with
    | some i => match i.k with
      | .mp kt e => match tt e, tt kt with
        | some ei, some ki => match (match ki.k with | .int _ => true | .str => true | _ => false) with
          | true => match (match ev x with
              | .o (.map none) => some []
              | .m r => match look r with
                | some (.map es _) => some es
                | _ => none
              | _ => none : Option (List (V × V × Nat))) with
            | some es => match keyFind ki.k (ev ix) es 0 with
              | some (some (_, v)) => match ok with
                | true => some (.t [v, .b true])
                | false => some v
              | some none => match ok with
                | true => some (.t [zeroV ei, .b false])
                | false => some (zeroV ei)
              | none => none
            | none => none
          | false => none
        | _, _ => none
      | _ => none
    | none => none
  | .call c => match c.callee, c.args.toList, c.argTypes.toList with
    | .builtin .len, [x], [t] => match tt t with
      | some i => match i.k with
        | .sl _ => match ev x with
          | .q _ _ _ n _ => some (.i .i64 n)
          | .z _ _ _ _ => some (.i .i64 0)
          | .o (.slice _ n _) => some (.i .i64 n)
          | _ => none
        | .str => match ev x with
          | .s l => some (.i .i64 l.length)
          | .o (.string s) => some (.i .i64 s.size)
          | _ => none
        | .arr n _ => some (.i .i64 n)
        | .mp _ _ => match ev x with
          | .o (.map none) => some (.i .i64 0)
          | .m r => match look r with
            | some (.map es _) => some (.i .i64 es.length)
            | _ => none
          | _ => none
        | _ => none
      | none => none
    | .builtin .min, xs, _ => match unL (xs.map ev) with
      | some l => match pureRun P (Builtin.min_ #[] 0 l.toArray) with
        | some r => some (constV r)
        | none => none
      | none => none
    | .builtin .max, xs, _ => match unL (xs.map ev) with
      | some l => match pureRun P (Builtin.max_ #[] 0 l.toArray) with
        | some r => some (constV r)
        | none => none
      | none => none
    | _, _, _ => none
  | _ => none
end
end Go.Proofs.Rn

/- A runner: the operations that change no memory tell what the model tells; over any program; no conditions. -/
namespace Go.Proofs.Rn
open Go Go.RowKit Go.Proofs.Own

def cmpK : Value → Value → Bool
  | .bool _, .bool _ | .pointer _, .pointer _ | .slice _ _ _, .slice _ _ _ | .map _, .map _ | .nilFunc, .nilFunc | .func _ _ _, .nilFunc => true
  | _, _ => false
section
variable {P : Program} {tt : TypeId → Option TJ} {look lens : Nat → Option Ent} {ev : Operand → V} {ρ : Operand → Value} {E : En} {w : World} {r x y : V} {n0 n zn : Nat}
theorem val_run {m : Sem Value} {v : Value} (h : m.run P w = .ok v w) : (do pure (.value (← m)) : Sem Next).run P w = .ok (.value v) w := by
  rw [Sem.run_bind, h]; rfl
theorem asN_den {v : V} {k : Nat} (h : asN v = some k) : ∃ q, v.den E = .int q (k : Int) := by
  unfold asN at h
  split at h
  · cases h; exact ⟨_, by simp only [V.den]; rfl⟩
  · cases h
theorem eq1_ok {t : TypeId} {d : TypeDesc} {k : TK} (hd : P.underlying t = some d) (hk : kOk P d k) {b : Bool} (h : eq1 k x y = some b) (m : Nat) : (Op.equalIn (m + 1) t (x.den E) (y.den E)).run P w = .ok b w := by
  unfold eq1 at h
  split at h
  · split at h
    · rename_i e
      subst e
      cases h
      cases d <;> first | exact hk.elim | skip
      simp only [V.den]
      exact run_equalIn_int w m t _ _ _ _ hd
    · cases h
  · cases h
    cases d <;> first | exact hk.elim | skip
    simp only [V.den]
    exact run_equalIn_bool' w m t _ _ hd
  · cases h
    cases d <;> first | exact hk.elim | skip
    simp only [V.den]
    exact run_equalIn_string w m t _ _ hd
  · cases h
theorem mapM_len {α β : Type} {f : α → Option β} : ∀ {l : List α} {r : List β}, l.mapM f = some r → ∀ (j : Nat) a, l[j]? = some a → ∃ b, f a = some b ∧ r[j]? = some b
  | [], r, h, j, a, ha => by simp at ha
  | x :: l, r, h, j, a, ha => by
    rw [List.mapM_cons] at h
    cases e : f x with
    | none => rw [e] at h; cases h
    | some b =>
      rw [e] at h
      cases e2 : l.mapM f with
      | none => rw [e2] at h; cases h
      | some q =>
        rw [e2] at h
        cases h
        cases j with
        | zero => simp only [List.getElem?_cons_zero, Option.some.injEq] at ha; subst ha; exact ⟨b, e, rfl⟩
        | succ j => exact mapM_len e2 j a (by simpa using ha)
theorem mapM_size {α β : Type} {f : α → Option β} : ∀ {l : List α} {r : List β}, l.mapM f = some r → r.length = l.length
  | [], r, h => by simp at h; subst h; rfl
  | x :: l, r, h => by
    rw [List.mapM_cons] at h
    cases e : f x with
    | none => rw [e] at h; cases h
    | some b =>
      rw [e] at h
      cases e2 : l.mapM f with
      | none => rw [e2] at h; cases h
      | some q =>
        rw [e2] at h
        cases h
        simp [mapM_size e2]
theorem mapM_map {α β γ : Type} {f : α → Option β} {g : β → γ} : ∀ {l : List α} {r : List β}, l.mapM f = some r → l.mapM (fun a => (f a).map g) = some (r.map g)
  | [], r, h => by simp at h; subst h; rfl
  | x :: l, r, h => by
    rw [List.mapM_cons] at h
    cases e : f x with
    | none => rw [e] at h; cases h
    | some b =>
      rw [e] at h
      cases e2 : l.mapM f with
      | none => rw [e2] at h; cases h
      | some q =>
        rw [e2] at h
        cases h
        rw [List.mapM_cons, e, mapM_map e2]
        rfl
/-- Is a struct's type one whose fields are compared one by one? -/
def plainEq (P : Program) (t : TypeId) : Bool := match P.underlying t with
  | some (.struct fs) => fs.toList.all (fun f => f.name != "_") && !P.eqGuardType P.depth t && !P.stoodInHeld t
  | some (.array _ _) => !P.eqGuardType P.depth t
  | _ => false
theorem eqL_ok (hT : TTok P tt) {l m : List V} {k : Nat} : ∀ {fs : List Field} {q : List (Nat × TypeId × Nat)} {b : Bool}, fs.mapM (fun f => (P.info? f.type).map fun i => (f.offset, f.type, i.size)) = some q → fs.all (fun f => f.name != "_") = true → eqL tt l m q = some b →
    (Op.eqFields (k + 1) (V.denL E l).toArray (V.denL E m).toArray fs).run P w = .ok b w
  | [], q, b, hf, _, h => by
    simp at hf
    subst hf
    cases h; rfl
  | f :: fs, q, b, hf, hn, h => by
    rw [List.mapM_cons] at hf
    cases e : P.info? f.type with
    | none => rw [e] at hf; cases hf
    | some it =>
      rw [e] at hf
      cases e2 : fs.mapM (fun f => (P.info? f.type).map fun i => (f.offset, f.type, i.size)) with
      | none => rw [e2] at hf; cases hf
      | some q' =>
        rw [e2] at hf
        cases hf
        simp only [List.all_cons, Bool.and_eq_true, bne_iff_ne, ne_eq] at hn
        rw [eqL] at h
        split at h
        · rename_i i x y hi hx hy
          obtain ⟨d, u1, u2⟩ := (hT _ _ hi).und
          have ih := fun {b} (hb : eqL tt l m q' = some b) => eqL_ok hT (k := k) e2 hn.2 hb
          have hag : isAgg' i.k = false := by
            cases hk : i.k <;> simp only [hk] at h <;> first | rfl | (simp [eq1] at h)
          have hp1 := part_ok (E := E) (w := w) (hT _ _ hi) (l := l) (k := f.offset) (r := x) (by unfold loadV; rw [hag]; exact hx)
          have hp2 := part_ok (E := E) (w := w) (hT _ _ hi) (l := m) (k := f.offset) (r := y) (by unfold loadV; rw [hag]; exact hy)
          rw [Op.eqFields, if_pos hn.1]
          rw [Sem.run_bind, hp1, Result.andThen_ok, Sem.run_bind, hp2, Result.andThen_ok, Sem.run_bind]
          split at h
          · rename_i he
            rw [eq1_ok (E := E) (w := w) u1 u2 he k, Result.andThen_ok]
            simpa using ih h
          · rename_i he
            rw [eq1_ok (E := E) (w := w) u1 u2 h k, Result.andThen_ok]
            cases b with
            | false => simp
            | true => exact (he h).elim
        · cases h
theorem eqR_ok {e : TypeId} {i : TJ} (hi : TyOk P e i) {n : Nat} (l m : List V) : ∀ (j : Nat) (l' m' : List V) {b : Bool}, l.drop j = l' → m.drop j = m' → eqR i.k l' m' = some b →
    (Op.eqItems (n + 1) e 1 (V.denL E l).toArray (V.denL E m).toArray (List.range' j l'.length)).run P w = .ok b w
  | j, [], [], b, _, _, h => by cases h; rfl
  | j, a :: l', c :: m', b, hl, hm, h => by
    obtain ⟨d, u1, u2⟩ := hi.und
    rw [eqR] at h
    have hag : isAgg' i.k = false := by
      cases hk : i.k <;> simp only [hk] at h <;> first | rfl | (simp [eq1] at h)
    have hla : l[j]? = some a := by
      have := congrArg (fun x => x[0]?) hl
      simpa using this
    have hmc : m[j]? = some c := by
      have := congrArg (fun x => x[0]?) hm
      simpa using this
    have hp1 := part_ok (E := E) (w := w) hi (l := l) (k := j) (r := a) (by unfold loadV; rw [hag]; rw [← lget_eq] at hla; exact hla)
    have hp2 := part_ok (E := E) (w := w) hi (l := m) (k := j) (r := c) (by unfold loadV; rw [hag]; rw [← lget_eq] at hmc; exact hmc)
    rw [List.length_cons, List.range'_succ, Op.eqItems, Nat.mul_one]
    rw [Sem.run_bind, hp1, Result.andThen_ok, Sem.run_bind, hp2, Result.andThen_ok, Sem.run_bind]
    have ih := fun {b} (hb : eqR i.k l' m' = some b) => eqR_ok hi (n := n) l m (j + 1) l' m' (by rw [← List.drop_drop, hl]; rfl) (by rw [← List.drop_drop, hm]; rfl) hb
    split at h
    · rename_i he
      rw [eq1_ok (E := E) (w := w) u1 u2 he n, Result.andThen_ok]
      simpa using ih h
    · rename_i he
      rw [eq1_ok (E := E) (w := w) u1 u2 h n, Result.andThen_ok]
      cases b with
      | false => simp
      | true => exact (he h).elim
  | j, [], _ :: _, b, _, _, h => by cases h
  | j, _ :: _, [], b, _, _, h => by cases h
theorem eqb_ok {t : TypeId} {a b : Operand} {u v : Value} {q : Bool} (h : (Op.equal t u v).run P w = .ok q w) (hx : cmpK u v = true) :
    (do eqGuard .eql t a b u v; Go.binOp .eql t u v : Sem Value).run P w = .ok (.bool q) w ∧ (do eqGuard .neq t a b u v; Go.binOp .neq t u v : Sem Value).run P w = .ok (.bool !q) w := by
  unfold cmpK at hx
  split at hx <;> first | (cases hx; done) | skip
  all_goals
    have hk := h
    rw [Sem.run_bind, Sem.run_bind]
    refine ⟨?_, ?_⟩
    all_goals
      simp only [eqGuard, Go.binOp]
      simp [hk]
theorem equal_nil {t : TypeId} {d : TypeDesc} {k : TK} (hd : P.underlying t = some d) (hk : kOk P d k) {b : Bool} (h : nilEq tt k x y = some b) (h1 : match k with | .ptr | .sl _ | .mp _ _ | .fn => True | _ => False) : (Op.equal t (x.den E) (y.den E)).run P w = .ok b w ∧ cmpK (x.den E) (y.den E) = true := by
  rw [Op.equal, show Op.maxDepth = 9999 + 1 from rfl, Op.equalIn, Sem.run_bind, run_underlying hd, Result.andThen_ok]
  cases k <;> first | exact h1.elim | skip
  all_goals
    cases d <;> first | exact hk.elim | skip
    simp only [nilEq] at h
    split at h <;> first | (cases h; done) | skip
    all_goals
      cases h
      simp only [V.den]
      exact ⟨rfl, rfl⟩
theorem evBin_ok (hT : TTok P tt) (hS : ∀ t i, tt t = some i → i.eq = true → plainEq P t = true) {op : BinOp} {t : TypeId} {a b : Operand} (h : evBin P tt op t x y = some r) :
    (do eqGuard op t a b (x.den E) (y.den E); Go.binOp op t (x.den E) (y.den E) : Sem Value).run P w = .ok (r.den E) w := by
  have eqs : ∀ {i : TJ} {q : Bool}, tt t = some i → nilEqG tt i x y = some q → (do eqGuard .eql t a b (x.den E) (y.den E); Go.binOp .eql t (x.den E) (y.den E) : Sem Value).run P w = .ok (.bool q) w ∧ (do eqGuard .neq t a b (x.den E) (y.den E); Go.binOp .neq t (x.den E) (y.den E) : Sem Value).run P w = .ok (.bool !q) w := by
    intro i q hi hq
    have hEq : isAgg' i.k = true → i.eq = true := fun ha => by
      unfold nilEqG at hq
      rw [ha] at hq
      cases he : i.eq with
      | true => rfl
      | false => rw [he] at hq; cases hq
    replace hq : nilEq tt i.k x y = some q := by
      unfold nilEqG at hq
      split at hq
      · exact hq
      · cases hq
    obtain ⟨d, u1, u2⟩ := (hT _ _ hi).und
    cases hk : i.k with
    | ptr =>
      rw [hk] at u2 hq
      obtain ⟨k1, k2⟩ := equal_nil (E := E) (w := w) u1 u2 hq trivial
      exact eqb_ok k1 k2
    | sl e =>
      rw [hk] at u2 hq
      obtain ⟨k1, k2⟩ := equal_nil (E := E) (w := w) u1 u2 hq trivial
      exact eqb_ok k1 k2
    | mp e f =>
      rw [hk] at u2 hq
      obtain ⟨k1, k2⟩ := equal_nil (E := E) (w := w) u1 u2 hq trivial
      exact eqb_ok k1 k2
    | fn =>
      rw [hk] at u2 hq
      obtain ⟨k1, k2⟩ := equal_nil (E := E) (w := w) u1 u2 hq trivial
      exact eqb_ok k1 k2
    | st fs =>
      rw [hk] at u2 hq
      simp only [nilEq] at hq
      split at hq
      · rename_i l m
        have hp := hS t i hi (hEq (by rw [hk]; rfl))
        unfold plainEq at hp
        rw [u1] at hp
        cases d <;> first | exact u2.elim | skip
        rename_i fl
        simp only [Bool.and_eq_true, Bool.not_eq_true'] at hp
        have q1 := eqL_ok (E := E) (w := w) hT (k := 9998) u2 hp.1.1 hq
        have hfo : P.fieldsOf t = fl := by unfold Program.fieldsOf; rw [u1]
        have q2 := run_equalIn_struct (P := P) w 9999 t (V.denL E l).toArray (V.denL E m).toArray (by rw [u1, hfo]) hp.2
        rw [hfo, q1] at q2
        simp only [V.den]
        refine ⟨?_, ?_⟩
        · rw [Sem.run_bind, run_eqGuard_agg w _ t _ _ _ _ hp.1.2, Result.andThen_ok, run_eql_struct, q2]; rfl
        · rw [Sem.run_bind, run_eqGuard_agg w _ t _ _ _ _ hp.1.2, Result.andThen_ok, run_neq_struct, q2]; rfl
      · cases hq
    | int k =>
      rw [hk] at hq
      simp only [nilEq, eq1] at hq
      split at hq
      · split at hq
        · rename_i e
          subst e
          cases hq
          refine ⟨?_, ?_⟩
          · simp [V.den, eqGuard, Go.binOp, Op.intCmp]
          · simp [V.den, eqGuard, Go.binOp, Op.intCmp, bne]
        · cases hq
      · rename_i e; cases e
      · rename_i e; cases e
      · cases hq
    | bool =>
      rw [hk] at u2 hq
      have q1 := eq1_ok (E := E) (w := w) u1 u2 hq 9999
      simp only [nilEq, eq1] at hq
      split at hq
      · rename_i e; cases e
      · cases hq
        exact eqb_ok q1 rfl
      · rename_i e; cases e
      · cases hq
    | str =>
      rw [hk] at hq
      simp only [nilEq, eq1] at hq
      split at hq
      · rename_i e; cases e
      · rename_i e; cases e
      · cases hq
        simp [V.den, eqGuard, Go.binOp, Op.stringOp]
      · cases hq
    | arr n e =>
      rw [hk] at u2 hq
      simp only [nilEq] at hq
      split at hq
      · rename_i l m ei hei
        split at hq
        · rename_i hl hn1
          have hp := hS t i hi (hEq (by rw [hk]; rfl))
          unfold plainEq at hp
          rw [u1] at hp
          cases d <;> first | exact u2.elim | skip
          rename_i dn de
          obtain ⟨rfl, rfl⟩ := u2
          simp only [Bool.not_eq_true'] at hp
          have hl := Nat.eq_of_beq_eq_true hl
          have hn1 := Nat.eq_of_beq_eq_true hn1
          obtain ⟨qi, hi1, hi2, _⟩ := (hT _ _ hei).info
          have hc : P.cellsOf de = 1 := by unfold Program.cellsOf; rw [hi1]; simp [hi2, hn1]
          have q2 := run_equalIn_array (P := P) w 9999 (V.denL E l).toArray (V.denL E m).toArray u1 hi1
          rw [hc] at q2
          have q3 := eqR_ok (E := E) (w := w) (hT _ _ hei) (n := 9998) l m 0 l m rfl rfl hq
          rw [hl, ← List.range_eq_range'] at q3
          rw [q3] at q2
          simp only [V.den]
          refine ⟨?_, ?_⟩
          · rw [Sem.run_bind, run_eqGuard_agg w _ t _ _ _ _ hp, Result.andThen_ok, run_eql_struct, q2]; rfl
          · rw [Sem.run_bind, run_eqGuard_agg w _ t _ _ _ _ hp, Result.andThen_ok, run_neq_struct, q2]; rfl
        · cases hq
      · cases hq
    | o => rw [hk] at hq; simp [nilEq, eq1] at hq
  unfold evBin at h
  split at h
  · split at h
    · rename_i i hi
      split at h
      · rename_i q hq
        cases h
        simp only [V.den]
        exact (eqs hi hq).1
      · cases h
    · cases h
  · split at h
    · rename_i i hi
      split at h
      · rename_i q hq
        cases h
        simp only [V.den]
        exact (eqs hi hq).2
      · cases h
    · cases h
  · rename_i k a' k' b' h1 h2
    split at h
    · rename_i q hq
      cases h
      have := pureRun_ok hq w
      rw [constV_den, Sem.run_bind]
      have hg : (eqGuard op t a b (.int k a') (.int k' b') : Sem Unit).run P w = .ok () w := by
        unfold eqGuard
        cases op <;> simp
      simp only [V.den]
      rw [hg, Result.andThen_ok, this]
    · cases h
  · rename_i a' b' h1 h2
    split at h
    · rename_i q hq
      cases h
      have := pureRun_ok hq w
      rw [constV_den, Sem.run_bind]
      have hg : (eqGuard op t a b (.string (mkS a')) (.string (mkS b')) : Sem Unit).run P w = .ok () w := by
        unfold eqGuard
        cases op <;> simp
      simp only [V.den]
      rw [hg, Result.andThen_ok]
      cases op <;> exact this
    · cases h
  · cases h
end
end Go.Proofs.Rn

/- A runner: the operations that change no memory tell what the model tells (slices, keys, all of them); over any program; no conditions. -/
namespace Go.Proofs.Rn
open Go Go.RowKit Go.Proofs.Own

section
variable {P : Program} {tt : TypeId → Option TJ} {look lens : Nat → Option Ent} {ev : Operand → V} {ρ : Operand → Value} {E : En} {w : World} {r x y : V} {n0 n zn : Nat}
theorem bound_ok {v : V} {k m : Nat} (h : asN v = some k) (hb : k ≤ m) (code : BoundsCode) : (Instr.sliceBound (v.den E) m code).run P w = .ok k w := by
  obtain ⟨q, hq⟩ := asN_den (E := E) h
  rw [hq]
  have h1 : (0 : Int) ≤ (k : Int) ∧ (k : Int) ≤ (m : Int) := by omega
  simp [Instr.sliceBound, asIntOf, h1]
theorem bounds_ok (is : Bool) {lo hi : Option V} {len cap l h : Nat} (hl : lo.elim (some 0) asN = some l) (hh : hi.elim (some len) asN = some h) (h1 : l ≤ h) (h2 : h ≤ cap) :
    (Instr.sliceBounds is len cap (lo.map (V.den E)) (hi.map (V.den E)) none).run P w = .ok (l, h, cap) w := by
  unfold Instr.sliceBounds
  cases lo with
  | none =>
    cases hi with
    | none =>
      simp only [Option.elim_none, Option.some.injEq] at hl hh
      subst hl hh
      simp
    | some hv =>
      simp only [Option.elim_none, Option.elim_some, Option.some.injEq] at hl hh
      subst hl
      simp [bound_ok (E := E) hh h2]
  | some lv =>
    cases hi with
    | none =>
      simp only [Option.elim_none, Option.elim_some, Option.some.injEq] at hl hh
      subst hh
      simp [bound_ok (E := E) hl h1]
    | some hv =>
      simp only [Option.elim_some] at hl hh
      simp [bound_ok (E := E) hl h1, bound_ok (E := E) hh h2]
theorem bounds3_ok {lo hi : Option V} {mv : V} {len cap l h m : Nat} (hl : lo.elim (some 0) asN = some l) (hh : hi.elim (some len) asN = some h) (hi0 : hi ≠ none) (hm : asN mv = some m) (h1 : l ≤ h) (h2 : h ≤ m) (h3 : m ≤ cap) :
    (Instr.sliceBounds true len cap (lo.map (V.den E)) (hi.map (V.den E)) (some (mv.den E))).run P w = .ok (l, h, m) w := by
  unfold Instr.sliceBounds
  cases hi with
  | none => exact absurd rfl hi0
  | some hv =>
    simp only [Option.elim_some] at hh
    cases lo with
    | none =>
      simp only [Option.elim_none, Option.some.injEq] at hl
      subst hl
      simp [bound_ok (E := E) hm h3, bound_ok (E := E) hh h2]
    | some lv =>
      simp only [Option.elim_some] at hl
      simp [bound_ok (E := E) hm h3, bound_ok (E := E) hh h2, bound_ok (E := E) hl h1]
theorem at_add (i o k : Nat) : (E.at i o).add k = E.at i (o + k) := by
  unfold Addr.add En.at
  split
  · rename_i h; subst h; rfl
  · simp [Nat.add_assoc]
theorem sliceQ_ok {t e : TypeId} {es : Nat} (ht : P.underlying t = some (.slice e)) (hs : (sizeOf e).run P w = .ok es w) (hl : ∀ {i l}, lens i = some (.cells l true) → l.length ≤ E.C i) (hw : ∀ {i o es n c}, x = .q i o es n c → 0 < es)
    {lo hi mx : Option V} (h : sliceQ lens x lo hi mx es = some r) (hmx : mx = none ∨ hi ≠ none) : (Instr.sliceAt t (x.den E) (lo.map (V.den E)) (hi.map (V.den E)) (mx.map (V.den E))).run P w = .ok (r.den E) w := by
  have hcap : ∀ {i o k cl : Nat}, 0 < es → o + k * es ≤ cl → cl ≤ E.C i → k ≤ (E.C i - o) / es := fun {i o k cl} h0 h1 h2 => (Nat.le_div_iff_mul_le h0).2 (by omega)
  unfold sliceQ at h
  split at h
  · split at h
    · rename_i h1 h2 h3
      cases h
      cases mx with
      | none =>
        have q := bounds_ok (P := P) (E := E) (w := w) true (lo := lo) (hi := hi) (len := 0) (cap := 0) h1 h2 (Nat.le_refl _) (Nat.le_refl _)
        simp only [V.den, Instr.sliceAt, Instr.slice, Option.map_none, Sem.run_bind, run_underlying ht, Result.andThen_ok, q, hs]
        simp
      | some mv =>
        have q := bounds3_ok (P := P) (E := E) (w := w) (lo := lo) (hi := hi) (len := 0) (cap := 0) h1 h2 (hmx.resolve_left nofun) h3 (Nat.le_refl _) (Nat.le_refl _) (Nat.le_refl _)
        simp only [V.den, Instr.sliceAt, Instr.slice, Option.map_some, Sem.run_bind, run_underlying ht, Result.andThen_ok, q, hs]
        simp
    · cases h
  · rename_i i o es' k c
    split at h
    · rename_i he
      subst he
      have h0 := hw rfl
      split at h
      · rename_i l hh h1 h2
        split at h
        · rename_i cc
          split at h
          · rename_i hb
            cases h
            simp only [Bool.and_eq_true, Nat.ble_eq] at hb
            have q := bounds_ok (P := P) (E := E) (w := w) true (lo := lo) (hi := hi) (len := k) (cap := cc) h1 h2 hb.1 hb.2
            simp only [V.den, Instr.sliceAt, Instr.slice, Option.map_none, Sem.run_bind, run_underlying ht, Result.andThen_ok, q, hs, Sem.run_pure, Option.map_some, at_add]
            split <;> rfl
          · cases h
        · rename_i mv cc
          split at h
          · rename_i m hm
            split at h
            · rename_i hb
              cases h
              simp only [Bool.and_eq_true, Nat.ble_eq] at hb
              have q := bounds3_ok (P := P) (E := E) (w := w) (lo := lo) (hi := hi) (len := k) (cap := cc) h1 h2 (hmx.resolve_left nofun) hm hb.1.1 hb.1.2 hb.2
              simp only [V.den, Instr.sliceAt, Instr.slice, Sem.run_bind, run_underlying ht, Result.andThen_ok, Option.map_some, q, hs, Sem.run_pure, at_add]
              split <;> rfl
            · cases h
          · cases h
        · split at h
          · rename_i cl hcl
            split at h
            · rename_i hb
              simp only [Bool.and_eq_true, Nat.ble_eq] at hb
              have hle := hl hcl
              have g1 := hcap h0 hb.2 hle
              have q := bounds_ok (P := P) (E := E) (w := w) true (lo := lo) (hi := hi) (len := k) (cap := (E.C i - o) / es') h1 h2 hb.1 g1
              split at h
              · rename_i hb2
                cases h
                simp only [Nat.ble_eq] at hb2
                have g2 := hcap h0 hb2 hle
                simp only [V.den, Instr.sliceAt, Instr.slice, Option.map_none, Sem.run_bind, run_underlying ht, Result.andThen_ok, q, hs, Sem.run_pure, Option.map_some, at_add]
                rw [if_neg (by omega)]
                congr 2
                rw [Nat.sub_add_eq, Nat.mul_comm l es', Nat.sub_mul_div]
              · split at h
                · rename_i hlh
                  cases h
                  have hlh := Nat.eq_of_beq_eq_true hlh
                  subst hlh
                  simp only [V.den, Instr.sliceAt, Instr.slice, Option.map_none, Sem.run_bind, run_underlying ht, Result.andThen_ok, q, hs, Sem.run_pure, Option.map_some, at_add, Nat.sub_self]
                  split <;> rfl
                · cases h
            · cases h
          · cases h
        · split at h
          · rename_i m cl hm hcl
            split at h
            · rename_i hb
              cases h
              simp only [Bool.and_eq_true, Nat.ble_eq] at hb
              have q := bounds3_ok (P := P) (E := E) (w := w) (lo := lo) (hi := hi) (len := k) (cap := (E.C i - o) / es') h1 h2 (hmx.resolve_left nofun) hm hb.1.1 hb.1.2 (hcap h0 hb.2 (hl hcl))
              simp only [V.den, Instr.sliceAt, Instr.slice, Sem.run_bind, run_underlying ht, Result.andThen_ok, Option.map_some, q, hs, Sem.run_pure, at_add]
              split <;> rfl
            · cases h
          · cases h
      · cases h
    · cases h
  · cases h
theorem keyFind_ok {d : TypeDesc} {k : TK} (hk : kOk P d k) {es : List (V × V × Nat)} : ∀ {i : Nat} {q : Option (Nat × V)}, keyFind k x es i = some q →
    Instr.findNow d (x.den E) (es.map fun e => (⟨e.1.den E, e.2.1.den E, e.2.2⟩ : MapEntry)) i = some (q.map fun p => (p.1, p.2.den E)) := by
  induction es with
  | nil => intro i q h; cases h; rfl
  | cons e0 es ih =>
    intro i q h
    obtain ⟨a, v, b⟩ := e0
    unfold keyFind at h
    split at h
    · split at h
      · rename_i e
        subst e
        cases d <;> first | exact hk.elim | skip
        split at h
        · rename_i e
          cases h
          simp only [List.map_cons, Instr.findNow, V.den, Instr.sameNow, if_true, e, Option.map_some]
        · rename_i e
          simp only [List.map_cons, Instr.findNow, V.den, Instr.sameNow, if_true, e]
          have := ih h
          simpa only [V.den] using this
      · cases h
    · cases d <;> first | exact hk.elim | skip
      split at h
      · rename_i e
        cases h
        simp only [List.map_cons, Instr.findNow, V.den, Instr.sameNow, e, Option.map_some]
      · rename_i e
        simp only [List.map_cons, Instr.findNow, V.den, Instr.sameNow, e]
        have := ih h
        simpa only [V.den] using this
    · cases h
theorem u8L_ok : ∀ {l : List V} {q : List Nat}, u8L l = some q → V.denL E l = q.map fun n => .int .u8 (n : Int)
  | [], q, h => by cases h; simp [V.denL]
  | a :: l, q, h => by
    unfold u8L at h
    split at h
    · rename_i e; cases e
    · rename_i e
      cases e
      split at h
      · rename_i r hr
        cases h
        simp only [V.denL, u8L_ok hr, V.den, List.map_cons]
        rfl
      · cases h
    · cases h
end
end Go.Proofs.Rn

/- A runner: each operation that changes no memory tells what the model tells; over any program; no conditions. -/
namespace Go.Proofs.Rn
open Go Go.RowKit Go.Proofs.Own

/-- The cells that an operation reads. -/
def opK (tt : TypeId → Option TJ) (ev : Operand → V) (K : Nat → Nat → Prop) : Op → Prop
  | .load t x => ∀ b o i, ev x = .p b o → tt t = some i → ∀ j, (j = o ∨ (o ≤ j ∧ j < o + i.n)) → K b j
  | .convert _ _ x => ∀ b o es n c, ev x = .q b o es n c → ∀ j, o ≤ j → j < o + n → K b j
  | _ => True
/-- Slice expressions with a third number have a second one. -/
def hiB : Op → Bool
  | .slice _ _ _ none (some _) => false
  | _ => true
theorem mkS_size (l : List Nat) : (mkS l).size = l.length := by
  unfold mkS
  show (l.map UInt8.ofNat).toArray.size = l.length
  simp
theorem mkS_extract (s : List Nat) (a b : Nat) (_ : a ≤ b) (_ : b ≤ s.length) : (mkS s).extract a b = mkS ((s.drop a).take (b - a)) := by
  apply ByteArray.ext
  rw [ByteArray.data_extract]
  unfold mkS
  simp [List.map_take, List.map_drop]
theorem mkS_get {s : List Nat} {n b : Nat} (h : s[n]? = some b) (hb : b < 256) : ∃ c : UInt8, (mkS s)[n]? = some c ∧ c.toNat = b := by
  refine ⟨UInt8.ofNat b, ?_, by simp; omega⟩
  have hl := (List.getElem?_eq_some_iff.1 h).1
  have hs : n < (mkS s).size := by rw [mkS_size]; exact hl
  rw [getElem?_pos (mkS s) n hs]
  congr 1
  have hb2 := (List.getElem?_eq_some_iff.1 h).2
  rw [← hb2]
  show (s.map UInt8.ofNat).toArray[n]'(by simpa using hl) = _
  rw [List.getElem_toArray, List.getElem_map]
theorem foldl_push (l : List Nat) : ∀ r : ByteArray, (l.map fun n => ((n : Nat) : Int)).foldl (fun (r : ByteArray) n => r.push (UInt8.ofNat n.toNat)) r = ⟨r.data ++ (l.map UInt8.ofNat).toArray⟩ := by
  induction l with
  | nil => intro r; simp
  | cons a l ih =>
    intro r
    rw [List.map_cons, List.foldl_cons, ih]
    cases r with
    | mk d =>
      simp only [ByteArray.push, Int.toNat_natCast, List.map_cons]
      congr 1
      apply Array.ext'
      simp
section
variable {P : Program} {tt : TypeId → Option TJ} {look lens : Nat → Option Ent} {ev : Operand → V} {ρ : Operand → Value} {E : En} {w : World} {r : V} {n0 n zn : Nat}
theorem fld {t : TypeId} {i : TJ} (hi : TyOk P t i) {fs : List (Nat × TypeId × Nat)} (hk : i.k = .st fs) {j k : Nat} {ft : TypeId} {m : Nat} (h : lget fs j = some (k, ft, m)) : ∃ fl f, P.underlying t = some (.struct fl) ∧ fl[j]? = some f ∧ f.offset = k ∧ f.type = ft ∧ (sizeOf f.type).run P w = .ok m w := by
  rw [lget_eq] at h
  obtain ⟨d, h1, h2⟩ := hi.und
  rw [hk] at h2
  cases d <;> first | exact h2.elim | skip
  rename_i fl
  have hl := mapM_size h2
  have hj : j < fl.toList.length := by rw [← hl]; exact (List.getElem?_eq_some_iff.1 h).1
  obtain ⟨b, hb1, hb2⟩ := mapM_len h2 j _ (List.getElem?_eq_getElem hj)
  rw [h] at hb2
  cases e : P.info? fl.toList[j].type with
  | none => rw [e] at hb1; cases hb1
  | some q =>
    rw [e] at hb1
    cases hb1
    cases hb2
    refine ⟨fl, fl.toList[j], h1, by rw [← Array.getElem?_toList]; exact List.getElem?_eq_getElem hj, rfl, rfl, ?_⟩
    simp only [Array.getElem_toList] at e ⊢
    simp [sizeOf, typeInfo, e]
theorem denL_map (hr : ∀ x, ρ x = (ev x).den E) (l : List Operand) : V.denL E (l.map ev) = l.map ρ := by
  rw [denL_eq, List.map_map]
  exact List.map_congr_left fun x _ => (hr x).symm
theorem getMap {b : Nat} {es : Array MapEntry} {c : Nat} (h : w.heap[b]? = some (.map es c)) : (getObj b).run P w = .ok (.map es c) w := by simp [getObj, Sem.run, h]
theorem place_st (fs : List (Nat × TypeId × Nat)) : (fun j => (lget fs j).map fun f => (f.1, f.2.2)) = fun j => ((fs.map fun f => (f.1, f.2.2)).toArray)[j]? := by
  funext j
  rw [lget_eq, List.getElem?_toArray, List.getElem?_map]
theorem zeroV_agg {i : TJ} (h : isAgg' i.k = true) : zeroV i = .g i.z := by unfold zeroV; rw [if_pos h]
theorem lookup_ok (hT : TTok P tt) (hlm : ∀ {i es c}, look i = some (.map es c) → w.heap[(E.B i).1]? = some (mapO E es c)) (hr : ∀ x, ρ x = (ev x).den E) (dst : Option Tmp) (t : TypeId) (x ix : Operand) (ok : Bool) (ty : TypeId) (pos : String) (after : Array Edge) (gd : Option (Nat × Bool))
    (h : evQ P tt look lens ev (.lookup t x ix ok) = some r) : (execOp ρ ⟨dst, .lookup t x ix ok, ty, pos, after, gd⟩).run P w = .ok (.value (r.den E)) w := by
  simp only [evQ] at h
  split at h
  · rename_i i hi
    obtain ⟨d, u1, u2⟩ := (hT _ _ hi).und
    split at h
    · rename_i kt e hik
      split at h
      · rename_i ei ki hei hki
        obtain ⟨dk, k1, k2⟩ := (hT _ _ hki).und
        rw [hik] at u2
        cases d <;> first | exact u2.elim | skip
        rename_i dk' de'
        obtain ⟨rfl, rfl⟩ := u2
        split at h
        · rename_i hkk
          split at h
          · rename_i es hes
            have hz := (hT _ _ hei).zeroR (w := w) E
            have hck0 : ∀ m b, (Instr.checkKey b (m + 1) dk' ((ev ix).den E)).run P w = .ok () w := fun m b => by
              rw [Instr.checkKey, Sem.run_bind, run_underlying k1, Result.andThen_ok]
              cases hk3 : ki.k <;> rw [hk3] at hkk k2 <;> first | (cases hkk; done) | skip
              all_goals
                cases dk <;> first | exact k2.elim | skip
                simp
            have hck : ∀ b, (Instr.checkKey b 10000 dk' ((ev ix).den E)).run P w = .ok () w := fun b => hck0 9999 b
            have hfk : ∀ {q : Option (Nat × V)}, keyFind ki.k (ev ix) es 0 = some q → (Instr.findKey dk' ((ev ix).den E) (es.map fun e => (⟨e.1.den E, e.2.1.den E, e.2.2⟩ : MapEntry))).run P w = .ok (q.map fun p => (p.1, p.2.den E)) w := fun {q} hq => by
              unfold Instr.findKey
              rw [Sem.run_bind, run_underlying k1, Result.andThen_ok, keyFind_ok (E := E) k2 hq]
              rfl
            have hx : ((ev x).den E = .map none ∧ es = []) ∨ (∃ b cl, (ev x).den E = .map (some b) ∧ (getObj b).run P w = .ok (.map (es.map fun e => (⟨e.1.den E, e.2.1.den E, e.2.2⟩ : MapEntry)).toArray cl) w) := by
              split at hes
              · rename_i ex
                cases hes
                exact .inl ⟨by rw [ex, V.den], rfl⟩
              · rename_i b ex
                split at hes
                · rename_i es' cl hb'
                  cases hes
                  exact .inr ⟨(E.B b).1, cl, by rw [ex, V.den], getMap (hlm hb')⟩
                · cases hes
              · cases hes
            have hfin : ∀ b, (do
                Instr.checkKey b 10000 dk' ((ev ix).den E)
                let (v, ok') ← match ← Instr.findKey dk' ((ev ix).den E) (es.map fun e => (⟨e.1.den E, e.2.1.den E, e.2.2⟩ : MapEntry)) with
                  | some (_, v) => pure (v, true)
                  | none => pure (← zeroValue de', false)
                pure (if ok then .tuple #[v, .bool ok'] else v) : Sem Value).run P w = .ok (r.den E) w := fun b => by
              rw [Sem.run_bind, hck, Result.andThen_ok]
              split at h
              · rename_i j v hq
                rw [Sem.run_bind, hfk hq, Result.andThen_ok]
                simp only [Option.map_some]
                split at h
                · cases h; simp only [V.den, V.denL]; rfl
                · cases h; rfl
              · rename_i hq
                rw [Sem.run_bind, hfk hq, Result.andThen_ok]
                simp only [Option.map_none, Sem.run_bind, hz, Sem.run_pure, Result.andThen_ok]
                split at h
                · cases h; simp only [V.den, V.denL]; rfl
                · cases h; rfl
              · cases h
            simp only [execOp]
            refine val_run ?_
            rw [hr, hr]
            unfold Instr.lookup
            rw [Sem.run_bind, run_underlying u1, Result.andThen_ok]
            rcases hx with ⟨e1, rfl⟩ | ⟨b, cl, e1, e2⟩
            · rw [e1]
              have := hfin (#[] : Array MapEntry).isEmpty
              generalize (10000 : Nat) = N at this ⊢
              dsimp only
              simp only [Sem.run_bind, Sem.run_pure, Result.andThen_ok] at this ⊢
              exact this
            · rw [e1]
              have := hfin (es.map fun e => (⟨e.1.den E, e.2.1.den E, e.2.2⟩ : MapEntry)).toArray.isEmpty
              generalize (10000 : Nat) = N at this ⊢
              simp only [Sem.run_bind, e2, Result.andThen_ok, Sem.run_pure] at this ⊢
              exact this
          · cases h
        · cases h
      · cases h
    · cases h
  · cases h
theorem unL_ok (hr : ∀ x, ρ x = (ev x).den E) {xs : Array Operand} {vs : List Value} (h : unL (xs.toList.map ev) = some vs) : xs.map ρ = vs.toArray := by
  have key : ∀ (l : List Operand) (vs : List Value), unL (l.map ev) = some vs → l.map ρ = vs := by
    intro l
    induction l with
    | nil => intro vs h; cases h; rfl
    | cons x l ih =>
      intro vs h
      rw [List.map_cons, unL] at h
      split at h
      · rename_i a r ha hl
        cases h
        rw [List.map_cons, ih _ hl, hr, unV_den ha]
      · cases h
  rw [← key _ _ h, ← List.map_toArray, Array.toArray_toList]
theorem evQ_ok (hT : TTok P tt) (hS : ∀ t i, tt t = some i → i.eq = true → plainEq P t = true) (K : Nat → Nat → Prop) (hlk : ∀ {i c u}, look i = some (.cells c u) → ∀ (j : Nat) v, K i j → c[j]? = some v → w.cell? (E.at i j) = some (v.den E)) (hlm : ∀ {i es c}, look i = some (.map es c) → w.heap[(E.B i).1]? = some (mapO E es c)) (hln : ∀ {i l}, lens i = some (.cells l true) → l.length ≤ E.C i)
    (hw : ∀ x, (ev x).wf n zn) (hr : ∀ x, ρ x = (ev x).den E) (o : Oper) (hKo : opK tt ev K o.op) (hb : hiB o.op = true) (h : evQ P tt look lens ev o.op = some r) : (execOp ρ o).run P w = .ok (.value (r.den E)) w := by
  obtain ⟨dst, op, ty, pos, after, gd⟩ := o
  simp only at h hb hKo
  cases op
  case move x => cases h; simp only [execOp, hr]; rfl
  case assign x => cases h; simp only [execOp, hr]; rfl
  case pick c a b =>
    simp only [evQ] at h
    split at h
    · rename_i e
      cases h
      simp [execOp, hr, e, V.den, asBool]
    · rename_i e
      cases h
      simp [execOp, hr, e, V.den, asBool]
    · cases h
  case build t ps =>
    simp only [evQ] at h
    split at h
    · rename_i i hi
      have ty := hT _ _ hi
      obtain ⟨q, hq1, hq2, hq3⟩ := ty.zero E
      obtain ⟨d, u1, u2⟩ := ty.und
      split at h
      · rename_i fs hk
        split at h
        · rename_i l hl
          cases h
          rw [hk] at u2
          cases d <;> first | exact u2.elim | skip
          rename_i fl
          have hf := fillV_ok hr ps.toList _ _ hl
          rw [place_st] at hf
          rw [zeroV_agg (by rw [hk]; rfl)] at hq2 hq3
          simp only [execOp]
          refine val_run (run_build w t _ _ ?_)
          unfold Program.built
          rw [hq1, u1]
          have hm : fl.toList.mapM (fun f => (P.info? f.type).map fun i => (f.offset, i.size)) = some (fs.map fun f => (f.1, f.2.2)) := by
            have := mapM_map (g := fun x : Nat × TypeId × Nat => (x.1, x.2.2)) u2
            simpa only [Option.map_map, Function.comp_def] using this
          simp only [hq2, hm]
          rw [hq3, ← hf]
          congr 1
          simp
        · cases h
      · rename_i nn e hk
        split at h
        · rename_i ei hei
          split at h
          · rename_i l hl
            cases h
            rw [hk] at u2
            cases d <;> first | exact u2.elim | skip
            obtain ⟨rfl, rfl⟩ := u2
            obtain ⟨qe, he1, he2, _⟩ := (hT _ _ hei).info
            have hf := fillV_ok hr ps.toList _ _ hl
            rw [zeroV_agg (by rw [hk]; rfl)] at hq2 hq3
            simp only [execOp]
            refine val_run (run_build w t _ _ ?_)
            unfold Program.built
            rw [hq1, u1]
            simp only [hq2, he1, he2]
            rw [hq3, ← hf]
            congr 1
            simp
          · cases h
        · cases h
      · cases h
    · cases h
  case load t x =>
    simp only [evQ] at h
    split at h
    · rename_i b o e
      split at h
      · rename_i i c u hi hb'
        have hl := load_ok (r := r) (E := E) (w := w) (c := c) (o := o) (b := b) (hT _ _ hi) (fun j v hj hv => by
          rw [denL_get] at hv
          cases hc : c[j]? with
          | none => rw [hc] at hv; cases hv
          | some a => rw [hc] at hv; cases hv; exact hlk hb' j a (hKo b o i e hi j hj) hc) h
        simp only [execOp]
        refine val_run ?_
        rw [hr, e]
        simp only [V.den, Instr.loadAt, Instr.sureAddr, Sem.run_bind, Sem.run_pure, Result.andThen_ok]
        exact hl
      · cases h
    · cases h
  case fieldAddr t x j =>
    simp only [evQ] at h
    split at h
    · rename_i b o e
      split at h
      · rename_i i hi
        split at h
        · rename_i fs hk
          split at h
          · rename_i k ft m hj
            split at h
            · cases h
            · rename_i hm
              cases h
              obtain ⟨fl, f, u1, u2, u3, u4, u5⟩ := fld (w := w) (hT _ _ hi) hk hj
              simp only [execOp]
              refine val_run ?_
              rw [hr, e]
              simp only [V.den, Instr.fieldAt, Instr.sureAddr, Sem.run_bind, run_underlying u1, Sem.run_pure, Result.andThen_ok, u2, fieldPlace, u5, if_neg hm, u3, at_add]
          · cases h
        · cases h
      · cases h
    · cases h
  case field t x j =>
    simp only [evQ] at h
    split at h
    · rename_i l e
      split at h
      · rename_i i hi
        split at h
        · rename_i fs hk
          split at h
          · rename_i k ft m hj
            split at h
            · rename_i fi hfi
              obtain ⟨fl, f, u1, u2, u3, u4, _⟩ := fld (w := w) (hT _ _ hi) hk hj
              have hp := part_ok (E := E) (w := w) (hT _ _ hfi) h
              rw [← u3, ← u4] at hp
              simp only [execOp]
              refine val_run ?_
              rw [hr, e]
              simp only [V.den, Instr.field, asAgg, Sem.run_bind, run_underlying u1, Sem.run_pure, Result.andThen_ok, u2]
              exact hp
            · cases h
          · cases h
        · cases h
      · cases h
    · cases h
  case extract x j =>
    simp only [evQ] at h
    split at h
    · rename_i l e
      simp only [execOp]
      refine val_run ?_
      rw [hr, e]
      simp only [V.den, Instr.extract, List.getElem?_toArray, lget_den h, Sem.run_pure]
    · cases h
  case nilCheck x =>
    simp only [evQ] at h
    split at h
    · rename_i e
      cases h
      simp only [execOp, hr, e, V.den]; rfl
    · rename_i e
      cases h
      simp only [execOp, hr, e, V.den]; rfl
    · cases h
  case binOp op t x y yt =>
    simp only [evQ] at h
    simp only [execOp]
    refine val_run ?_
    rw [hr, hr]
    exact evBin_ok hT hS h
  case unOp op t x =>
    simp only [evQ] at h
    split at h
    · rename_i a ha
      split at h
      · rename_i q hq
        cases h
        simp only [execOp]
        refine val_run ?_
        rw [hr, unV_den (E := E) ha, constV_den]
        exact pureRun_ok hq w
      · cases h
    · cases h
  case makeFunc fn a c =>
    simp only [evQ] at h
    cases h
    simp only [execOp]
    refine val_run ?_
    simp only [Instr.makeFunc, Sem.run_pure, V.den, denL_map hr]
    rw [← List.map_toArray, ← List.map_toArray, Array.toArray_toList, Array.toArray_toList]
  case convert t u x =>
    simp only [evQ] at h
    split at h
    · rename_i i j hi hj
      obtain ⟨d1, a1, a2⟩ := (hT _ _ hi).und
      obtain ⟨d2, b1, b2⟩ := (hT _ _ hj).und
      simp only [execOp]
      refine val_run ?_
      split at h
      · rename_i k hk
        rw [hk] at b2
        cases d2 <;> first | exact b2.elim | skip
        cases b2
        split at h
        · rename_i m e
          cases h
          rw [hr, e]
          simp only [V.den, convert, Sem.run_bind, run_underlying a1, run_underlying b1, Result.andThen_ok]
          cases d1 <;> first | rfl | (simp only [Conv.intToInt, Sem.run_pure])
        · cases h
      · rename_i hk
        rw [hk] at b2
        cases d2 <;> first | exact b2.elim | skip
        split at h
        · rename_i l hik e
          cases h
          rw [hik] at a2
          cases d1 <;> first | exact a2.elim | skip
          rw [hr, e]
          simp only [V.den, convert, Sem.run_bind, run_underlying a1, run_underlying b1, Result.andThen_ok, Sem.run_pure]
        · rename_i e0 c1 c2 hik e
          split at h
          · rename_i ei hei
            split at h
            · rename_i hke
              cases h
              rw [hik] at a2
              cases d1 <;> first | exact a2.elim | skip
              cases a2
              obtain ⟨de, g1, g2⟩ := (hT _ _ hei).und
              rw [hke] at g2
              cases de <;> first | exact g2.elim | skip
              cases g2
              rw [hr, e]
              simp only [V.den]
              rw [run_convert_bytes_string w t u e0 none c1 c2 a1 g1 b1]
              rfl
            · cases h
          · cases h
        · rename_i e0 b o es m c hik e
          split at h
          · rename_i ei cl uu hei hlb
            split at h
            · rename_i q hke hcut
              split at h
              · rename_i z hz
                cases h
                rw [hik] at a2
                cases d1 <;> first | exact a2.elim | skip
                cases a2
                obtain ⟨de, g1, g2⟩ := (hT _ _ hei).und
                rw [hke] at g2
                cases de <;> first | exact g2.elim | skip
                cases g2
                obtain ⟨k1, k2⟩ := lcut_den (E := E) hcut
                have hrun := run_loadCells_list (P := P) (w := w) (E.at b o) (V.denL E q) (fun j v hv => by
                  have h3 := k2 j v hv
                  rw [denL_get] at h3
                  cases hc : cl[o + j]? with
                  | none => rw [hc] at h3; cases h3
                  | some a =>
                    rw [hc] at h3
                    cases h3
                    rw [at_add]
                    exact hlk hlb _ a (hKo b o _ m c e _ (Nat.le_add_right _ _) (by have := (List.getElem?_eq_some_iff.1 hv).1; omega)) hc)
                rw [k1] at hrun
                rw [hr, e]
                simp only [V.den]
                rw [run_convert_bytes_string w t u e0 _ m _ a1 g1 b1]
                rw [run_bytesToString w (E.at b o) m _ (z.map fun n => ((n : Nat) : Int)) (by rw [hrun, u8L_ok hz, List.map_map]; rfl), foldl_push]
                simp [mkS]
              · cases h
            · cases h
          · cases h
        · cases h
      · cases h
    · cases h
  case indexAddr t x ix =>
    simp only [evQ] at h
    split at h
    · rename_i i k hi hk
      obtain ⟨q, hq⟩ := asN_den (E := E) hk
      obtain ⟨d, u1, u2⟩ := (hT _ _ hi).und
      simp only [execOp]
      refine val_run ?_
      split at h
      · rename_i len e b o hik ex
        split at h
        · rename_i ei hei
          split at h
          · rename_i hlt
            cases h
            rw [hik] at u2
            cases d <;> first | exact u2.elim | skip
            rename_i dl de
            obtain ⟨rfl, rfl⟩ := u2
            simp only [Nat.blt_eq] at hlt
            have h2 : (0 : Int) ≤ (k : Int) ∧ (k : Int) < (dl : Int) := by omega
            have hs := (hT _ _ hei).sizeOf (w := w)
            rw [hr, hr, ex, hq]
            simp [V.den, Instr.indexAt, asIntOf, run_underlying u1, Instr.sureAddr, h2, hs, at_add, hlt]
          · cases h
        · cases h
      · rename_i e b o es len c hik ex
        split at h
        · rename_i ei hei
          split at h
          · rename_i hlt
            cases h
            rw [hik] at u2
            cases d <;> first | exact u2.elim | skip
            cases u2
            simp only [Bool.and_eq_true, Nat.blt_eq] at hlt
            obtain ⟨hlt, hes⟩ := hlt
            have hes := Nat.eq_of_beq_eq_true hes
            subst hes
            have h2 : (0 : Int) ≤ (k : Int) ∧ (k : Int) < (len : Int) := by omega
            have hs := (hT _ _ hei).sizeOf (w := w)
            rw [hr, hr, ex, hq]
            simp [V.den, Instr.indexAt, asIntOf, run_underlying u1, h2, hs, at_add, hlt]
          · cases h
        · cases h
      · cases h
    · cases h
  case index t x ix =>
    simp only [evQ] at h
    split at h
    · rename_i i k hi hk
      obtain ⟨q, hq⟩ := asN_den (E := E) hk
      obtain ⟨d, u1, u2⟩ := (hT _ _ hi).und
      simp only [execOp]
      refine val_run ?_
      split at h
      · rename_i len e l hik ex
        split at h
        · rename_i ei hei
          split at h
          · rename_i hlt
            rw [hik] at u2
            cases d <;> first | exact u2.elim | skip
            rename_i dl de
            obtain ⟨rfl, rfl⟩ := u2
            simp only [Nat.blt_eq] at hlt
            have h2 : (0 : Int) ≤ (k : Int) ∧ (k : Int) < (dl : Int) := by omega
            have hs := (hT _ _ hei).sizeOf (w := w)
            have hp := part_ok (E := E) (w := w) (hT _ _ hei) h
            rw [hr, hr, ex, hq]
            simp [V.den, Instr.index, asIntOf, run_underlying u1, h2, hs, hp, hlt]
          · cases h
        · cases h
      · rename_i s hik ex
        split at h
        · rename_i b hb'
          split at h
          · rename_i hlt
            cases h
            rw [hik] at u2
            cases d <;> first | exact u2.elim | skip
            simp only [Nat.blt_eq] at hlt
            rw [lget_eq] at hb'
            obtain ⟨c, c1, c2⟩ := mkS_get hb' hlt
            rw [hr, hr, ex, hq]
            have h0 : (0 : Int) ≤ (k : Int) := by omega
            simp [V.den, Instr.index, asIntOf, run_underlying u1, c1, c2]
          · cases h
        · cases h
      · cases h
    · cases h
  case slice t x lo hi mx =>
    simp only [evQ] at h
    split at h
    · rename_i i hi'
      obtain ⟨d, u1, u2⟩ := (hT _ _ hi').und
      have hm : ∀ y : Option Operand, y.map ρ = (y.map ev).map (V.den E) := fun y => by cases y <;> simp [hr]
      simp only [execOp]
      refine val_run ?_
      rw [hm, hm, hm, hr]
      split at h
      · rename_i e hik
        split at h
        · rename_i ei hei
          rw [hik] at u2
          cases d <;> first | exact u2.elim | skip
          cases u2
          refine sliceQ_ok u1 ((hT _ _ hei).sizeOf (w := w)) hln (fun {a b c d f} ex => by have := hw x; rw [ex] at this; simp only [V.wf] at this; exact this.2) h ?_
          cases mx with
          | none => exact .inl rfl
          | some _ =>
            cases hi with
            | none => cases hb
            | some _ => exact .inr nofun
        · cases h
      · rename_i len e hik
        split at h
        · rename_i ei b o hei ex
          split at h
          · rename_i l hh g1 g2 g3
            split at h
            · rename_i hc
              cases h
              rw [hik] at u2
              cases d <;> first | exact u2.elim | skip
              rename_i dl de
              obtain ⟨rfl, rfl⟩ := u2
              simp only [Bool.and_eq_true, Nat.ble_eq] at hc
              have hs := (hT _ _ hei).sizeOf (w := w)
              have q := bounds_ok (P := P) (E := E) (w := w) false (lo := lo.map ev) (hi := hi.map ev) (len := dl) (cap := dl) g2 g3 hc.1.1 hc.1.2
              rw [ex]
              simp only [V.den, Instr.sliceAt, Option.map_none, Sem.run_bind, run_underlying u1, Result.andThen_ok, q, hs, Sem.run_pure, Instr.sureAddr, at_add]
              split <;> rfl
            · cases h
          · cases h
        · cases h
      · rename_i hik
        split at h
        · rename_i s l ex g2
          split at h
          · rename_i hh g3
            split at h
            · rename_i hc
              cases h
              rw [hik] at u2
              cases d <;> first | exact u2.elim | skip
              simp only [Bool.and_eq_true, Nat.ble_eq] at hc
              have q := bounds_ok (P := P) (E := E) (w := w) false (lo := lo.map ev) (hi := hi.map ev) (len := s.length) (cap := s.length) g2 g3 hc.1 hc.2
              rw [ex]
              simp only [V.den, Instr.sliceAt, Instr.slice, Option.map_none, Sem.run_bind, run_underlying u1, Result.andThen_ok, mkS_size, Option.isSome_none, Bool.false_eq_true, if_false, Sem.run_pure]
              rw [q, Result.andThen_ok, mkS_extract s l hh hc.1 hc.2]
            · cases h
          · cases h
        · cases h
      · cases h
    · cases h
  case lookup t x ix ok => exact lookup_ok hT hlm hr dst t x ix ok ty pos after gd h
  case call c =>
    simp only [evQ] at h
    split at h
    · rename_i x t hc1 hc2 hc3
      have ha : c.args = #[x] := by rw [← Array.toList_inj, hc2]
      have hbb : c.argTypes = #[t] := by rw [← Array.toList_inj, hc3]
      split at h
      · rename_i i hi
        obtain ⟨d, u1, u2⟩ := (hT _ _ hi).und
        have key : ∀ {v : Value}, (Builtin.len_ #[t] ty #[(ev x).den E]).run P w = .ok v w → (execOp ρ ⟨dst, .call c, ty, pos, after, gd⟩).run P w = .ok (.value v) w := fun {v} hv => by
          simp only [execOp, resolve, hc1, Sem.run_bind, Sem.run_pure, Result.andThen_ok, invoke, Go.builtin, hbb, ha]
          simp [hr, hv]
        split at h
        · rename_i e hik
          rw [hik] at u2
          cases d <;> first | exact u2.elim | skip
          split at h
          all_goals first | (cases h; done) | skip
          all_goals
            rename_i ex
            cases h
            refine key ?_
            rw [ex]
            simp [V.den, Builtin.len_, run_underlying u1, goInt]
        · rename_i hik
          rw [hik] at u2
          cases d <;> first | exact u2.elim | skip
          split at h
          all_goals first | (cases h; done) | skip
          all_goals
            rename_i ex
            cases h
            refine key ?_
            rw [ex]
            simp [V.den, Builtin.len_, run_underlying u1, goInt, mkS_size]
        · rename_i k e hik
          rw [hik] at u2
          cases d <;> first | exact u2.elim | skip
          obtain ⟨rfl, rfl⟩ := u2
          cases h
          refine key ?_
          simp [V.den, Builtin.len_, run_underlying u1, goInt]
        · rename_i k e hik
          rw [hik] at u2
          cases d <;> first | exact u2.elim | skip
          split at h
          · rename_i ex
            cases h
            refine key ?_
            rw [ex]
            simp [V.den, Builtin.len_, run_underlying u1, goInt]
          · rename_i b ex
            split at h
            · rename_i es cl hb'
              cases h
              refine key ?_
              rw [ex]
              have hg := getMap (P := P) (hlm hb')
              simp [V.den, Builtin.len_, run_underlying u1, goInt, hg]
            · cases h
          · cases h
        · cases h
      · cases h
    · rename_i hc1
      split at h
      · rename_i vs hvs
        split at h
        · rename_i q hq
          cases h
          have ha : (c.args.map ρ) = vs.toArray := unL_ok hr hvs
          simp only [execOp, resolve, hc1, Sem.run_bind, Sem.run_pure, Result.andThen_ok, invoke, Go.builtin, ha]
          rw [constV_den]
          have : (Builtin.min_ c.argTypes ty vs.toArray).run P w = .ok q w := pureRun_ok hq w
          rw [this]
          rfl
        · cases h
      · cases h
    · rename_i hc1
      split at h
      · rename_i vs hvs
        split at h
        · rename_i q hq
          cases h
          have ha : (c.args.map ρ) = vs.toArray := unL_ok hr hvs
          simp only [execOp, resolve, hc1, Sem.run_bind, Sem.run_pure, Result.andThen_ok, invoke, Go.builtin, ha]
          rw [constV_den]
          have : (Builtin.max_ c.argTypes ty vs.toArray).run P w = .ok q w := pureRun_ok hq w
          rw [this]
          rfl
        · cases h
      · cases h
    · cases h
  all_goals (simp only [evQ] at h; cases h; done)
theorem eqV_wf (b : Bool) : (V.b b).wf n zn := by simp only [V.wf]
theorem evBin_wf {op : BinOp} {t : TypeId} {x y : V} (h : evBin P tt op t x y = some r) : r.wf n zn := by
  unfold evBin at h
  split at h
  · split at h
    · split at h
      · cases h; exact eqV_wf _
      · cases h
    · cases h
  · split at h
    · split at h
      · cases h; exact eqV_wf _
      · cases h
    · cases h
  · split at h
    · cases h; exact constV_wf _ _ _
    · cases h
  · split at h
    · cases h; exact constV_wf _ _ _
    · cases h
  · cases h
theorem sliceQ_wf {x : V} {lo hi mx : Option V} {es : Nat} (hw : x.wf n zn) (h : sliceQ lens x lo hi mx es = some r) : r.wf n zn := by
  unfold sliceQ at h
  split at h
  · split at h
    · cases h; simp only [V.wf]
    · cases h
  · split at h
    · rename_i e
      subst e
      simp only [V.wf] at hw
      split at h
      · split at h
        · split at h
          · cases h; simp only [V.wf]; exact hw
          · cases h
        · split at h
          · split at h
            · cases h; simp only [V.wf]; exact hw
            · cases h
          · cases h
        · split at h
          · split at h
            · split at h
              · cases h; simp only [V.wf]; exact hw
              · split at h
                · cases h; simp only [V.wf]; exact hw
                · cases h
            · cases h
          · cases h
        · split at h
          · split at h
            · cases h; simp only [V.wf]; exact hw
            · cases h
          · cases h
      · cases h
    · cases h
  · cases h
theorem keyFind_wf {k : TK} {x : V} : ∀ {es : List (V × V × Nat)} {i j : Nat} {v : V}, (∀ e ∈ es, e.1.wf n zn ∧ e.2.1.wf n zn) → keyFind k x es i = some (some (j, v)) → v.wf n zn
  | [], i, j, v, _, h => by cases h
  | (a, u, b) :: es, i, j, v, hw, h => by
    have h1 := (hw _ List.mem_cons_self).2
    have ih := @keyFind_wf k x es (i + 1) j v (fun e he => hw e (List.mem_cons_of_mem _ he))
    unfold keyFind at h
    split at h
    · split at h
      · split at h
        · cases h; exact h1
        · exact ih h
      · cases h
    · split at h
      · cases h; exact h1
      · exact ih h
    · cases h
theorem zeroV_wf {t : TypeId} {i : TJ} (h : TyOk P t i) : (zeroV i).wf n zn := by
  have := h.zwf n zn
  unfold zeroV
  split
  · simp only [V.wf]; exact this
  · split
    · rename_i e
      rw [e] at this
      simp only [V.wfL] at this
      exact this.1
    · simp only [V.wf]; exact this
theorem evQ_wf (hT : TTok P tt) (hlk : ∀ {i e}, look i = some e → e.wf n zn) (hw : ∀ x, (ev x).wf n zn) {op : Op} (h : evQ P tt look lens ev op = some r) : r.wf n zn := by
  cases op
  case move x => cases h; exact hw _
  case assign x => cases h; exact hw _
  case pick c a b =>
    simp only [evQ] at h
    split at h
    · cases h; exact hw _
    · cases h; exact hw _
    · cases h
  case build t ps =>
    simp only [evQ] at h
    split at h
    · rename_i i hi
      have hz := (hT _ _ hi).zwf n zn
      split at h
      · split at h
        · rename_i l hl
          cases h
          simp only [V.wf]
          exact fillV_wf hw _ _ _ hl hz
        · cases h
      · split at h
        · split at h
          · rename_i l hl
            cases h
            simp only [V.wf]
            exact fillV_wf hw _ _ _ hl hz
          · cases h
        · cases h
      · cases h
    · cases h
  case load t x =>
    simp only [evQ] at h
    split at h
    · split at h
      · rename_i hb
        exact loadV_wf h (hlk hb)
      · cases h
    · cases h
  case fieldAddr t x j =>
    simp only [evQ] at h
    split at h
    · rename_i e
      have := hw x
      rw [e] at this
      simp only [V.wf] at this
      split at h
      · split at h
        · split at h
          · split at h
            · cases h
            · cases h; simp only [V.wf]; exact this
          · cases h
        · cases h
      · cases h
    · cases h
  case field t x j =>
    simp only [evQ] at h
    split at h
    · rename_i e
      have := hw x
      rw [e] at this
      simp only [V.wf] at this
      split at h
      · split at h
        · split at h
          · split at h
            · exact loadV_wf h this
            · cases h
          · cases h
        · cases h
      · cases h
    · cases h
  case extract x j =>
    simp only [evQ] at h
    split at h
    · rename_i e
      have := hw x
      rw [e] at this
      simp only [V.wf] at this
      exact lget_wf h this
    · cases h
  case nilCheck x =>
    simp only [evQ] at h
    split at h
    · rename_i e
      have := hw x
      rw [e] at this
      cases h; exact this
    · rename_i e
      have := hw x
      rw [e] at this
      cases h; exact this
    · cases h
  case binOp op t x y yt => exact evBin_wf h
  case unOp op t x =>
    simp only [evQ] at h
    split at h
    · split at h
      · cases h; exact constV_wf _ _ _
      · cases h
    · cases h
  case makeFunc fn a c =>
    simp only [evQ] at h
    cases h
    simp only [V.wf]
    refine ⟨wfL_iff.2 fun v hv => ?_, wfL_iff.2 fun v hv => ?_⟩
    all_goals
      obtain ⟨x, _, rfl⟩ := List.mem_map.1 hv
      exact hw x
  case convert t u x =>
    simp only [evQ] at h
    split at h
    · split at h
      · split at h
        · cases h; simp only [V.wf]
        · cases h
      · split at h
        · cases h; simp only [V.wf]
        · split at h
          · split at h
            · cases h; simp only [V.wf]
            · cases h
          · cases h
        · split at h
          · split at h
            · split at h
              · cases h; simp only [V.wf]
              · cases h
            · cases h
          · cases h
        · cases h
      · cases h
    · cases h
  case indexAddr t x ix =>
    simp only [evQ] at h
    split at h
    · split at h
      · rename_i e
        have := hw x
        rw [e] at this
        simp only [V.wf] at this
        split at h
        · split at h
          · cases h; simp only [V.wf]; exact this
          · cases h
        · cases h
      · rename_i e
        have := hw x
        rw [e] at this
        simp only [V.wf] at this
        split at h
        · split at h
          · cases h; simp only [V.wf]; exact this.1
          · cases h
        · cases h
      · cases h
    · cases h
  case index t x ix =>
    simp only [evQ] at h
    split at h
    · split at h
      · rename_i e
        have := hw x
        rw [e] at this
        simp only [V.wf] at this
        split at h
        · split at h
          · exact loadV_wf h this
          · cases h
        · cases h
      · split at h
        · split at h
          · cases h; simp only [V.wf]
          · cases h
        · cases h
      · cases h
    · cases h
  case slice t x lo hi mx =>
    simp only [evQ] at h
    split at h
    · split at h
      · split at h
        · exact sliceQ_wf (hw x) h
        · cases h
      · split at h
        · rename_i e
          have := hw x
          rw [e] at this
          simp only [V.wf] at this
          split at h
          · split at h
            · rename_i hc
              cases h
              simp only [Bool.and_eq_true, Nat.blt_eq] at hc
              simp only [V.wf]
              exact ⟨this, hc.2⟩
            · cases h
          · cases h
        · cases h
      · split at h
        · split at h
          · split at h
            · cases h; simp only [V.wf]
            · cases h
          · cases h
        · cases h
      · cases h
    · cases h
  case lookup t x ix ok =>
    simp only [evQ] at h
    split at h
    · split at h
      · split at h
        · rename_i ei ki hei hki
          split at h
          · split at h
            · rename_i es hes
              have hes' : ∀ e ∈ es, e.1.wf n zn ∧ e.2.1.wf n zn := by
                split at hes
                · cases hes; exact nofun
                · split at hes
                  · rename_i hb
                    cases hes
                    exact hlk hb
                  · cases hes
                · cases hes
              split at h
              · rename_i v hq
                have hv := keyFind_wf hes' hq
                split at h
                · cases h; simp only [V.wf, V.wfL]; exact ⟨hv, trivial, trivial⟩
                · cases h; exact hv
              · have hz := zeroV_wf (n := n) (zn := zn) (hT _ _ hei)
                split at h
                · cases h; simp only [V.wf, V.wfL]; exact ⟨hz, trivial, trivial⟩
                · cases h; exact hz
              · cases h
            · cases h
          · cases h
        · cases h
      · cases h
    · cases h
  case call c =>
    simp only [evQ] at h
    split at h
    · split at h
      · split at h
        · split at h <;> first | (cases h; done) | (cases h; simp only [V.wf])
        · split at h <;> first | (cases h; done) | (cases h; simp only [V.wf])
        · cases h; simp only [V.wf]
        · split at h
          · cases h; simp only [V.wf]
          · split at h
            · cases h; simp only [V.wf]
            · cases h
          · cases h
        · cases h
      · cases h
    · split at h
      · split at h
        · cases h; exact constV_wf _ _ _
        · cases h
      · cases h
    · split at h
      · split at h
        · cases h; exact constV_wf _ _ _
        · cases h
      · cases h
    · cases h
  all_goals (simp only [evQ] at h; cases h; done)
end
end Go.Proofs.Rn

/- A runner: what is done to memory; over any program; no conditions. -/
namespace Go.Proofs.Rn
open Go Go.RowKit Go.Proofs.Own

/-- What is not to be changed is as it was. -/
def SameE (lo hi : Nat) : Option Ent → Option Ent → Prop
  | some (.cells l _), some (.cells l' _) => ∀ j, lo ≤ j → j < hi → l'[j]? = l[j]?
  | a, b => b = a
theorem SameE.refl (lo hi : Nat) (a : Option Ent) : SameE lo hi a a := by
  cases a with
  | none => rfl
  | some e => cases e <;> first | rfl | exact fun _ _ _ => rfl
/-- A step from one memory to another: what stood of the first windows stands, the frozen ones are as they were. -/
structure Stp (w0 : World) (E : En) (h : Hp) (E' : En) (h' : Hp) (w' : World) : Prop where
  gd : Gd E' w0 h' w'
  ext : Ext h.n h.zn E E'
  n : h.n ≤ h'.n
  zn : h.zn ≤ h'.zn
  fz : h'.fz = h.fz
  fr : ∀ i ∈ h.fz, SameE i.2.1 i.2.2 (h.get i.1) (h'.get i.1)
def storeH (h : Hp) (b o : Nat) (l : List V) : Option Hp := match h.get b with
  | some (.cells c u) => if fzHit h.fz b o (o + l.length) || !(Nat.ble (o + l.length) c.length) then none else some (h.put b (.cells (lput c o l) u))
  | _ => none
section
variable {P : Program} {E : En} {w0 w : World} {h h' : Hp} {l : List V} {b o : Nat}
theorem Stp.refl (g : Gd E w0 h w) : Stp w0 E h E h w := ⟨g, Ext.refl _ _ _, Nat.le_refl _, Nat.le_refl _, rfl, fun _ _ => SameE.refl _ _ _⟩
theorem Hp.get_put (h : Hp) (i : Nat) (e : Ent) : (h.put i e).get i = some e := Tr.get_put _ _ _
theorem Hp.get_put_ne (h : Hp) {i j : Nat} (e : Ent) (q : j ≠ i) : (h.put i e).get j = h.get j := Tr.get_put_ne _ _ q
theorem Hp.get_new (h : Hp) (e : Ent) : (h.new e).get h.n = some e := Tr.get_put _ _ _
theorem Hp.get_new_ne (h : Hp) {j : Nat} (e : Ent) (q : j ≠ h.n) : (h.new e).get j = h.get j := Tr.get_put_ne _ _ q
theorem cells_at {c : List V} {u : Bool} {i : Nat} (he : EntOk E w0.heap.size i w (.cells c u)) {j : Nat} (hj : j < c.length) : (w.cell? (E.at i j)).isSome = true ∧ w.frozen? (E.at i j) = false := by
  obtain ⟨h1, h2⟩ := he.2.2.1 j _ (List.getElem?_eq_getElem hj)
  exact ⟨by rw [h1]; rfl, h2⟩
theorem run_store {c : List V} {u : Bool} (g : Gd E w0 h w) (hb : h.get b = some (.cells c u)) (hl : o + l.length ≤ c.length) (h1 : ∀ v ∈ V.denL E l, v.oneCell' = true) :
    (storeCells (E.at b o) (V.denL E l) 0).run P w = .ok () (w.setCells (E.B b).1 ((E.B b).2 + o) (V.denL E l)) := by
  have he := g.ent hb
  have hll := denL_len E l
  have := run_storeCells_cells (P := P) (E.B b).1 ((E.B b).2 + o) (V.denL E l) 0 w (fun j hj => by
    have := (cells_at he (show o + j < c.length by omega)).1
    simpa only [En.at, Nat.add_zero, Nat.add_assoc] using this) (fun j hj => by
    have := (cells_at he (show o + j < c.length by omega)).2
    simpa only [En.at, Nat.add_zero, Nat.add_assoc] using this) h1
  simpa only [En.at, Nat.add_zero] using this
theorem set_ok {c : List V} {u : Bool} (g : Gd E w0 h w) (hb : h.get b = some (.cells c u)) (hl : o + l.length ≤ c.length) (hw : V.wfL h.n h.zn l) :
    Gd E w0 (h.put b (.cells (lput c o l) u)) (w.setCells (E.B b).1 ((E.B b).2 + o) (V.denL E l)) := by
  have he := g.ent hb
  have hll := denL_len E l
  have hk := Kept.setCells (E.B b).1 (V.denL E l) ((E.B b).2 + o) w
  refine g.put hb nofun hk (lput_wf hl (g.wf.wf hb) hw) ⟨he.1, Nat.lt_of_lt_of_le he.2.1 hk.size, fun j v hv => ?_, fun hu => ⟨by rw [lput_length hl]; exact (he.2.2.2.1 hu).1, fun j hj => ?_⟩, he.2.2.2.2⟩
  · rw [World.frozen?_setCells]
    rw [lput_get hl] at hv
    split at hv
    · rename_i hj
      have hjc : j < c.length := by omega
      refine ⟨?_, (cells_at he hjc).2⟩
      have := World.cell?_setCells_in (E.B b).1 (V.denL E l) ((E.B b).2 + o) w (fun i hi => by
        have := (cells_at he (show o + i < c.length by omega)).1
        simpa only [En.at, Nat.add_assoc] using this) (j - o) (by omega)
      rw [show (E.B b).2 + o + (j - o) = (E.B b).2 + j by omega] at this
      simp only [En.at]
      rw [this, ← List.getElem?_eq_getElem, denL_get, hv]
      rfl
    · rename_i hj
      have := he.2.2.1 j v hv
      refine ⟨?_, this.2⟩
      rw [World.cell?_setCells_out _ _ _ _ _ (fun _ _ => by simp only [En.at]; omega)]
      exact this.1
  · rw [World.frozen?_setCells]
    exact ⟨World.isSome_setCells _ _ _ _ _ ((he.2.2.2.1 hu).2 j hj).1, ((he.2.2.2.1 hu).2 j hj).2⟩
theorem storeH_ok (hs : storeH h b o l = some h') (g : Gd E w0 h w) (hw : V.wfL h.n h.zn l) (h1 : ∀ v ∈ V.denL E l, v.oneCell' = true) :
    ∃ w', (storeCells (E.at b o) (V.denL E l) 0).run P w = .ok () w' ∧ Stp w0 E h E h' w' := by
  unfold storeH at hs
  split at hs
  · rename_i c u hb
    split at hs
    · cases hs
    · rename_i hc
      cases hs
      simp only [Bool.or_eq_true, Bool.not_eq_true', not_or, Bool.not_eq_true, Bool.not_eq_false, Nat.ble_eq] at hc
      refine ⟨_, run_store g hb hc.2 h1, set_ok g hb hc.2 hw, Ext.refl _ _ _, Nat.le_refl _, Nat.le_refl _, rfl, fun i hi => ?_⟩
      by_cases e : i.1 = b
      · rw [e, hb, Hp.get_put]
        intro j h1 h2
        have hno : ¬ (o ≤ j ∧ j < o + l.length) := fun q => by
          have : fzHit h.fz b o (o + l.length) = true := List.any_eq_true.2 ⟨i, hi, by
            simp only [Bool.and_eq_true, Nat.blt_eq]
            exact ⟨by rw [e]; exact Nat.beq_refl b, by omega, by omega⟩⟩
          rw [this] at hc
          cases hc.1
        rw [lput_get hc.2, if_neg hno]
      · rw [Hp.get_put_ne _ _ e]
        exact SameE.refl _ _ _
  · cases hs
/-- A new window behind its object. -/
theorem new_ok {w1 : World} {e : Ent} {ob : Obj} {c : Nat} (g : Gd E w0 h w) (hk : Kept w w1 (fun _ => False)) (hw : e.wf (h.n + 1) h.zn) (he : EntOk (E.new h.n (w1.heap.size, 0) c) w0.heap.size h.n (w1.alloc ob) e) :
    Stp w0 E h (E.new h.n (w1.heap.size, 0) c) (h.new e) (w1.alloc ob) := by
  have k2 : Kept w (w1.alloc ob) (fun _ => False) := hk.trans (Kept.alloc w1 ob _)
  refine ⟨g.new k2 hw he fun {j f} hj fd => ?_, E.new_ext _ _ _ _, Nat.le_succ _, Nat.le_refl _, rfl, fun i hi => by rw [Hp.get_new_ne _ _ (show i.1 ≠ h.n by have := g.wf.fzl i hi; omega)]; exact SameE.refl _ _ _⟩
  have := (EntOk.lt (g.ent hj) fd).2
  have := hk.size
  simp only
  omega
theorem En.new_at (E : En) (n : Nat) (b o : Nat) (c j : Nat) : (E.new n (b, o) c).at n j = ⟨b, o + j, none⟩ := by simp only [En.at, En.new, if_true]
theorem frozen_alloc (w : World) (arr : Array Value) (t : TypeId) (j : Nat) : (w.alloc (.cells arr t)).frozen? ⟨w.heap.size, j, none⟩ = false := by
  unfold World.frozen? World.alloc
  simp
/-- New cells. -/
theorem new_cells {w1 : World} {arr : Array Value} {t : TypeId} {u : Bool} {c : Nat} (g : Gd E w0 h w) (hk : Kept w w1 (fun _ => False)) (hw : V.wfL h.n h.zn l) (ha : ∀ (j : Nat) v, (V.denL E l)[j]? = some v → arr[j]? = some v)
    (hu : u = true → l.length ≤ c ∧ arr.size = c) : Stp w0 E h (E.new h.n (w1.heap.size, 0) c) (h.new (.cells l u)) (w1.alloc (.cells arr t)) := by
  have x := E.new_ext h.n h.zn (w1.heap.size, 0) c
  refine new_ok g hk (V.wfL_mono (Nat.le_succ _) (Nat.le_refl _) l hw) ⟨?_, ?_, fun j v hv => ?_, fun q => ⟨?_, fun j hj => ?_⟩, fun _ => by simp only [En.new, if_true]⟩
  · simp only [En.new, if_true]
    exact Nat.le_trans g.size hk.size
  · simp only [En.new, if_true]
    simp
  · rw [En.new_at, Nat.zero_add]
    refine ⟨?_, frozen_alloc _ _ _ _⟩
    rw [World.cell?_alloc_new, V.den_ext x v (wfL_iff.1 hw v (List.mem_of_getElem? hv))]
    exact ha j _ (by rw [denL_get, hv]; rfl)
  · simp only [En.new, if_true]
    exact (hu q).1
  · rw [En.new_at, Nat.zero_add]
    refine ⟨?_, frozen_alloc _ _ _ _⟩
    simp only [En.new, if_true] at hj
    rw [World.cell?_alloc_new, Array.getElem?_eq_getElem (by have := (hu q).2; omega)]
    rfl
theorem made_get {z : List V} {k : Nat} (hz : 0 < z.length) : ∀ (j : Nat) v, (V.denL E (repL k z))[j]? = some v → (madeCells (V.denL E z).toArray (k * z.length))[j]? = some v := by
  have hlen : ∀ k, (repL k z).length = k * z.length := fun k => by
    induction k with
    | zero => simp [repL]
    | succ k ih => rw [repL, List.length_append, ih, Nat.succ_mul, Nat.add_comm]
  have key : ∀ k (j : Nat), j < k * z.length → (repL k z)[j]? = z[j % z.length]? := fun k => by
    induction k with
    | zero => intro j hj; simp at hj
    | succ k ih =>
      intro j hj
      rw [repL]
      by_cases q : j < z.length
      · rw [List.getElem?_append_left q, Nat.mod_eq_of_lt q]
      · rw [List.getElem?_append_right (by omega), ih (j - z.length) (by rw [Nat.succ_mul] at hj; omega), ← Nat.mod_eq_sub_mod (by omega)]
  intro j v hv
  have hj : j < k * z.length := by
    have := (List.getElem?_eq_some_iff.1 hv).1
    rw [denL_len, hlen] at this
    exact this
  rw [denL_get, key k j hj] at hv
  have hm : j % z.length < z.length := Nat.mod_lt _ hz
  rw [List.getElem?_eq_getElem hm] at hv
  unfold madeCells
  rw [Array.getElem?_map, Array.getElem?_range, if_pos hj]
  simp only [Option.map_some, List.size_toArray, denL_len]
  rw [← Option.some.inj hv]
  congr 1
  rw [getElem!_pos _ _ (by simpa [denL_len] using hm)]
  simp [denL_eq]
theorem repL_len {z : List V} : ∀ k, (repL k z).length = k * z.length
  | 0 => by simp [repL]
  | k+1 => by rw [repL, List.length_append, repL_len k, Nat.succ_mul, Nat.add_comm]
theorem repL_wf {n zn : Nat} {z : List V} (hz : V.wfL n zn z) : ∀ k, V.wfL n zn (repL k z)
  | 0 => trivial
  | k+1 => by
    rw [repL]
    exact wfL_iff.2 fun v hv => (List.mem_append.1 hv).elim (wfL_iff.1 hz v) (wfL_iff.1 (repL_wf hz k) v)
theorem made_eq {z : List V} (hz : 0 < z.length) (k : Nat) : madeCells (V.denL E z).toArray (k * z.length) = (V.denL E (repL k z)).toArray := by
  apply Array.ext_getElem?
  intro j
  by_cases hj : j < k * z.length
  · have h1 : (V.denL E (repL k z))[j]? = some ((V.denL E (repL k z))[j]'(by rw [denL_len, repL_len]; exact hj)) := List.getElem?_eq_getElem _
    rw [made_get (E := E) hz j _ h1, List.getElem?_toArray, h1]
  · rw [Array.getElem?_eq_none (by rw [size_madeCells]; omega), List.getElem?_toArray, List.getElem?_eq_none (by rw [denL_len, repL_len]; omega)]
end
end Go.Proofs.Rn

/- A runner: the operations that change memory; over any program; no conditions. -/
namespace Go.Proofs.Rn
open Go Go.RowKit Go.Proofs.Own

/-- What an append appends: how many, and their cells. -/
def srcA (tt : TypeId → Option TJ) (h : Hp) (es : Nat) (tx : TypeId) (v : V) : Option (Nat × List V) := match tt tx with
  | some i => match i.k, v with
    | .sl _, .o (.slice none 0 _) => some (0, [])
    | .sl _, .z _ _ _ _ => some (0, [])
    | .sl _, .q i o es' n _ => if es' = es then (match h.get i with
      | some (.cells c _) => match lcut c o (n * es) with
        | some l => if oneVL l then some (n, l) else none
        | none => none
      | _ => none) else none
    | .str, .s l => match es with
      | 1 => if l.all (fun n => Nat.blt n 256) then some (l.length, l.map fun n => .i .u8 (.ofNat n)) else none
      | _ => none
    | _, _ => none
  | none => none
def appH (h : Hp) (es bt : Nat) (s : V) (k : Nat) (news : List V) : Option (V × Hp) := match Nat.ble bt 100000, s with
  | true, .o (.slice none 0 0) => match k with
    | 0 => some (.o (.slice none 0 0), h)
    | _ => if Nat.ble k 1000000 then some (.q h.n 0 es k none, h.new (.cells news true)) else none
  | true, .q i o es' n c => if es' = es && Nat.ble (n + k) 1000000 then (match h.get i with
    | some (.cells l u) => match c with
      | some cc => match Nat.ble (n + k) cc with
        | true => match k with
          | 0 => some (.q i o es n (some cc), h)
          | _ => match storeH h i (o + n * es) news with
            | some h => some (.q i o es (n + k) (some cc), h)
            | none => none
        | false => match lcut l o (n * es) with
          | some old => some (.q h.n 0 es (n + k) none, h.new (.cells (old ++ news) true))
          | none => none
      | none => match u, Nat.ble (o + (n + k) * es) l.length with
        | true, true => match k with
          | 0 => some (.q i o es n none, h)
          | _ => match storeH h i (o + n * es) news with
            | some h => some (.q i o es (n + k) none, h)
            | none => none
        | true, false => match lcut l o (n * es) with
          | some old => if fzHas h.fz i then none else some (.q h.n 0 es (n + k) none, (h.put i .dead).new (.cells (old ++ news) true))
          | none => none
        | _, _ => none
    | _ => none) else none
  | _, _ => none
section
variable {P : Program} {tt : TypeId → Option TJ} {E : En} {w0 w : World} {h h' : Hp} {r : V}
theorem byteCells_mkS (l : List Nat) (hl : l.all (fun n => Nat.blt n 256) = true) : byteCells (mkS l) = V.denL E (l.map fun n => .i .u8 (.ofNat n)) := by
  unfold byteCells mkS
  rw [denL_eq, List.map_map]
  simp only [List.map_map]
  refine List.map_congr_left fun n hn => ?_
  have := List.all_eq_true.1 hl n hn
  simp only [Nat.blt_eq] at this
  simp only [Function.comp_apply, V.den]
  congr 1
  simp
  omega
theorem cell_den {i : Nat} {c : List V} {u : Bool} {l : List V} {o k : Nat} (he : EntOk E w0.heap.size i w (.cells c u)) (hc : lcut c o k = some l) : (V.denL E l).length = k ∧ ∀ (j : Nat) v, (V.denL E l)[j]? = some v → w.cell? ((E.at i o).add j) = some v := by
  obtain ⟨h1, h2⟩ := lcut_den (E := E) hc
  refine ⟨h1, fun j v hv => ?_⟩
  have h3 := h2 j v hv
  rw [denL_get] at h3
  cases e : c[o + j]? with
  | none => rw [e] at h3; cases h3
  | some a =>
    rw [e] at h3
    cases h3
    rw [at_add]
    exact (he.2.2.1 _ a e).1
theorem srcA_ok (hT : TTok P tt) (g : Gd E w0 h w) {es k : Nat} {tx : TypeId} {v : V} {l : List V} (hs : srcA tt h es tx v = some (k, l)) : Src P es tx (v.den E) k (V.denL E l) w := by
  unfold srcA at hs
  split at hs
  · rename_i i hi
    obtain ⟨d, u1, u2⟩ := (hT _ _ hi).und
    split at hs
    · rename_i e c hk
      cases hs
      rw [hk] at u2
      cases d <;> first | exact u2.elim | skip
      simp only [V.den, V.denL]
      exact Src.ofNil w u1 _
    · rename_i e j1 j2 j3 j4 hk
      cases hs
      rw [hk] at u2
      cases d <;> first | exact u2.elim | skip
      simp only [V.den, V.denL]
      exact Src.ofSlice w u1 _ _ _ _ (by simp) (fun j v hv => by simp at hv) (fun _ hv => by simp at hv)
    · rename_i e b o es' n c hk
      split at hs
      · rename_i e
        subst e
        split at hs
        · rename_i cl uu hb
          split at hs
          · rename_i q hq
            split at hs
            · rename_i ho
              cases hs
              rw [hk] at u2
              cases d <;> first | exact u2.elim | skip
              obtain ⟨h1, h2⟩ := cell_den (g.ent hb) hq
              simp only [V.den]
              exact Src.ofSlice w u1 _ _ _ _ h1 h2 (oneVL_den E ho)
            · cases hs
          · cases hs
        · cases hs
      · cases hs
    · rename_i s hk
      split at hs
      · split at hs
        · rename_i ha
          cases hs
          rw [hk] at u2
          cases d <;> first | exact u2.elim | skip
          have := Src.ofString (P := P) w u1 (mkS s)
          rw [mkS_size, byteCells_mkS (E := E) s ha] at this
          simpa only [V.den] using this
        · cases hs
      · cases hs
    · cases hs
  · cases hs
theorem srcA_wf (g : Gd E w0 h w) {es k : Nat} {tx : TypeId} {v : V} {l : List V} (hs : srcA tt h es tx v = some (k, l)) : V.wfL h.n h.zn l := by
  unfold srcA at hs
  split at hs
  · split at hs
    · cases hs; trivial
    · cases hs; trivial
    · split at hs
      · split at hs
        · rename_i hb
          split at hs
          · rename_i q hq
            split at hs
            · cases hs
              exact lcut_wf hq (g.wf.wf hb)
            · cases hs
          · cases hs
        · cases hs
      · cases hs
    · split at hs
      · split at hs
        · cases hs
          refine wfL_iff.2 fun v hv => ?_
          obtain ⟨n, _, rfl⟩ := List.mem_map.1 hv
          simp only [V.wf]
        · cases hs
      · cases hs
    · cases hs
  · cases hs
/-- A row that grows where it lies: the window is told anew. -/
theorem grow_in (g : Gd E w0 h w) {i o n k es : Nat} {l old news : List V} (hb : h.get i = some (.cells l true)) (hq : lcut l o (n * es) = some old) (hn : news.length = k * es) (hw : V.wfL h.n h.zn news) (hc : o + (n + k) * es ≤ E.C i) (hz : ¬ fzHas h.fz i = true) :
    Stp w0 E h (E.new h.n ((E.B i).1, (E.B i).2 + o) (E.C i - o)) ((h.put i .dead).new (.cells (old ++ news) true)) (w.setCells (E.B i).1 ((E.B i).2 + (o + n * es)) (V.denL E news)) := by
  have he := g.ent hb
  obtain ⟨q1, q2, q3⟩ := lcut_some _ _ _ _ hq
  have hk := Kept.setCells (E.B i).1 (V.denL E news) ((E.B i).2 + (o + n * es)) w
  have g1 := (g.kill i hb).stepS hk (fun k hk => hk ▸ he.1) (fun {j f} hj fd e => by
    by_cases q : j = i
    · subst q
      rw [Hp.get_put] at hj
      exact fd (Option.some.inj hj).symm
    · rw [Hp.get_put_ne _ _ q] at hj
      exact q (g.inj hj hb fd nofun e))
  have hin : i < h.n := g.wf.lt hb
  have hx := E.new_ext h.n h.zn ((E.B i).1, (E.B i).2 + o) (E.C i - o)
  have hroom := (he.2.2.2.1 rfl).2
  have hwo : V.wfL h.n h.zn old := lcut_wf hq (g.wf.wf hb)
  have hw2 : V.wfL h.n h.zn (old ++ news) := wfL_iff.2 fun v hv => (List.mem_append.1 hv).elim (wfL_iff.1 hwo v) (wfL_iff.1 hw v)
  have hlen : (n + k) * es = n * es + k * es := Nat.add_mul _ _ _
  have hent : EntOk (E.new h.n ((E.B i).1, (E.B i).2 + o) (E.C i - o)) w0.heap.size h.n (w.setCells (E.B i).1 ((E.B i).2 + (o + n * es)) (V.denL E news)) (.cells (old ++ news) true) := by
    refine ⟨by simp only [En.new, if_true]; exact he.1, by simp only [En.new, if_true]; exact Nat.lt_of_lt_of_le he.2.1 hk.size, fun j v hv => ?_, fun _ => ⟨?_, fun j hj => ?_⟩, nofun⟩
    · rw [En.new_at, World.frozen?_setCells, V.den_ext hx v (wfL_iff.1 hw2 v (List.mem_of_getElem? hv))]
      by_cases hj : j < n * es
      · rw [List.getElem?_append_left (by omega), q3 j hj] at hv
        have := he.2.2.1 _ v hv
        simp only [En.at] at this
        rw [World.cell?_setCells_out _ _ _ _ _ (fun _ _ => by simp only; omega), Nat.add_assoc]
        exact this
      · rw [List.getElem?_append_right (by omega), q1] at hv
        have hjl := (List.getElem?_eq_some_iff.1 hv).1
        refine ⟨?_, ?_⟩
        · have := World.cell?_setCells_in (E.B i).1 (V.denL E news) ((E.B i).2 + (o + n * es)) w (fun m hm => by
            rw [denL_len] at hm
            have := (hroom (o + n * es + m) (by omega)).1
            simpa only [En.at, Nat.add_assoc] using this) (j - n * es) (by rw [denL_len]; omega)
          rw [show (E.B i).2 + (o + n * es) + (j - n * es) = (E.B i).2 + o + j by omega] at this
          rw [this, ← List.getElem?_eq_getElem, denL_get, hv]
          rfl
        · have := (hroom (o + j) (by omega)).2
          simpa only [En.at, Nat.add_assoc] using this
    · simp only [En.new, if_true, List.length_append]
      omega
    · simp only [En.new, if_true] at hj
      rw [En.new_at, World.frozen?_setCells]
      have := hroom (o + j) (by omega)
      simp only [En.at] at this
      rw [Nat.add_assoc]
      exact ⟨World.isSome_setCells _ _ _ _ _ this.1, this.2⟩
  refine ⟨g1.new (b := ((E.B i).1, (E.B i).2 + o)) (c := E.C i - o) (Kept.refl _ _) (V.wfL_mono (Nat.le_succ _) (Nat.le_refl _) _ hw2) hent (fun {j f} hj fd e => ?_), hx, Nat.le_succ _, Nat.le_refl _, rfl, fun j hj => ?_⟩
  · by_cases q : j = i
    · subst q
      rw [Hp.get_put] at hj
      exact fd (Option.some.inj hj).symm
    · rw [Hp.get_put_ne _ _ q] at hj
      exact q (g.inj hj hb fd nofun e)
  · have hjn := g.wf.fzl j hj
    rw [Hp.get_new_ne (h.put i .dead) _ (show j.1 ≠ (h.put i .dead).n from Nat.ne_of_lt hjn), Hp.get_put_ne]
    · exact SameE.refl _ _ _
    · intro e
      exact hz (List.any_eq_true.2 ⟨j, hj, by rw [e]; exact Nat.beq_refl _⟩)
/-- A row that is laid anew. -/
theorem grow_new (g : Gd E w0 h w) {t tx e ty : TypeId} {i : TJ} (ht : P.underlying t = some (.slice e)) (hi : TyOk P e i) (h0 : 0 < i.n) (hbt : i.bt ≤ 100000) {xv : Value} {n k cap : Nat} {base : Option Addr} {old news : List V} (hwo : V.wfL h.n h.zn old) (hol : old.length = n * i.n)
    (hold : (Builtin.firstCells i.n n (.slice base n cap)).run P w.drew = .ok (V.denL E old).toArray w.drew) (hs : Src P i.n tx xv k (V.denL E news) w) (hnw : V.wfL h.n h.zn news) (hg : cap < n + k) (hk : n + k ≤ 1000000) :
    ∃ E' w', Stp w0 E h E' (h.new (.cells (old ++ news) true)) w' ∧ (Builtin.append_ #[t, tx] ty #[.slice base n cap, xv]).run P w = .ok ((V.q h.n 0 i.n (n + k) none).den E') w' := by
  obtain ⟨qi, hq1, hq2, hq3⟩ := hi.info
  obtain ⟨qz, hz1, hz2, hz3⟩ := hi.zero E
  rw [hq1] at hz1
  cases hz1
  have hnl : news.length = k * i.n := by have := hs.newsLen; rwa [denL_len] at this
  have hzc : ((zeroV i).den E).cells.size = i.n := by rw [hz3, List.size_toArray, denL_len, hi.zlen]
  have hge := grownCap_ge w (n + k) cap e
  have hbk : (n + k) * i.bt ≤ 140737488355328 := Nat.le_trans (Nat.mul_le_mul hk hbt) (by decide)
  rw [← hq2] at hs hold
  have hrun := run_append_grow_src w t tx ty e qi _ ht hq1 hz2 base n cap (V.denL E old) hold xv k (V.denL E news) hs hg (by omega) (growslice_fits hg (by rw [hq3]; exact hbk))
  generalize hcap : grownCap w (n + k) cap e = gc at hrun hge
  have hsz : (Builtin.zeroCells ((zeroV i).den E).cells (gc - (n + k))).size = (gc - (n + k)) * i.n := by rw [size_zeroCells, hzc]
  have hmul : (n + k) * i.n + (gc - (n + k)) * i.n = gc * i.n := by rw [← Nat.add_mul]; congr 1; omega
  have hadd : (n + k) * i.n = n * i.n + k * i.n := Nat.add_mul _ _ _
  have hw2 : V.wfL h.n h.zn (old ++ news) := wfL_iff.2 fun v hv => (List.mem_append.1 hv).elim (wfL_iff.1 hwo v) (wfL_iff.1 hnw v)
  have hstp := new_cells (u := true) (c := gc * i.n) (arr := ((V.denL E old ++ V.denL E news).toArray ++ Builtin.zeroCells ((zeroV i).den E).cells (gc - (n + k)))) (t := e) g (Kept.drew w _) hw2
    (fun j v hv => by
      rw [denL_eq, List.map_append, ← denL_eq, ← denL_eq] at hv
      rw [Array.getElem?_append_left (by rw [List.size_toArray]; exact (List.getElem?_eq_some_iff.1 hv).1), List.getElem?_toArray]
      exact hv)
    (fun _ => ⟨by rw [List.length_append]; omega, by rw [Array.size_append, hsz, List.size_toArray, List.length_append, denL_len, denL_len]; omega⟩)
  refine ⟨_, _, hstp, ?_⟩
  rw [hrun]
  congr 1
  simp only [V.den, En.new_at, Nat.add_zero, World.drew]
  simp only [En.new, if_true, Nat.sub_zero, Nat.mul_div_cancel _ h0]
theorem appH_ok (_hT : TTok P tt) (g : Gd E w0 h w) {t tx e ty : TypeId} {i : TJ} (ht : P.underlying t = some (.slice e)) (hi : TyOk P e i) (h0 : 0 < i.n) {s : V} {xv : Value} {k : Nat} {news : List V} (hsw : s.wf h.n h.zn) (hs : Src P i.n tx xv k (V.denL E news) w) (hnw : V.wfL h.n h.zn news)
    (ha : appH h i.n i.bt s k news = some (r, h')) : ∃ E' w', Stp w0 E h E' h' w' ∧ r.wf h'.n h'.zn ∧ (Builtin.append_ #[t, tx] ty #[s.den E, xv]).run P w = .ok (r.den E') w' := by
  obtain ⟨qi, hq1, hq2, hq3⟩ := hi.info
  have hnl : news.length = k * i.n := by have := hs.newsLen; rwa [denL_len] at this
  have hone := hs.one
  unfold appH at ha
  split at ha
  · rename_i hbt
    simp only [Nat.ble_eq] at hbt
    split at ha
    · cases ha
      refine ⟨E, w, Stp.refl g, by simp only [V.wf], ?_⟩
      rw [← hq2] at hs
      have hc := hs.cells
      rcases hs.kind with ⟨e', hk⟩ | hk <;> simp [V.den, Builtin.append_, run_underlying ht, run_underlying hk, sizeOf, typeInfo, hq1, hs.len, hc]
    · rename_i k0
      split at ha
      · rename_i hkb
        cases ha
        simp only [Nat.ble_eq] at hkb
        have hk0 : 0 < k := Nat.pos_of_ne_zero k0
        obtain ⟨E', w', q1, q2⟩ := grow_new (ty := ty) (n := 0) (cap := 0) (base := none) (old := []) g ht hi h0 hbt trivial (by simp) (by rw [V.denL]; exact run_firstCells_none w.drew i.n 0 0 0) hs hnw (by omega) (by omega)
        refine ⟨E', w', by simpa using q1, by simp only [V.wf]; exact ⟨Nat.lt_succ_self _, h0⟩, ?_⟩
        rw [Nat.zero_add] at q2
        simpa only [V.den] using q2
      · cases ha
  · rename_i b o es' n c hbt
    simp only [Nat.ble_eq] at hbt
    simp only [V.wf] at hsw
    split at ha
    · rename_i hcnd
      simp only [Bool.and_eq_true, decide_eq_true_eq, Nat.ble_eq] at hcnd
      obtain ⟨hes, hkb⟩ := hcnd
      subst hes
      split at ha
      · rename_i l u hb
        have he := g.ent hb
        have room : ∀ {cp : Nat} {h2 : Hp}, n + k ≤ cp → storeH h b (o + n * i.n) news = some h2 → ∃ w', Stp w0 E h E h2 w' ∧ (Builtin.append_ #[t, tx] ty #[.slice (some (E.at b o)) n cp, xv]).run P w = .ok (.slice (some (E.at b o)) (n + k) cp) w' := fun {cp h2} hle hst => by
          obtain ⟨w', hr, hstp⟩ := storeH_ok (P := P) hst g hnw hone
          have hst2 := hst
          unfold storeH at hst2
          rw [hb] at hst2
          simp only at hst2
          split at hst2
          · cases hst2
          · rename_i hc
            simp only [Bool.or_eq_true, Bool.not_eq_true', not_or, Bool.not_eq_true, Bool.not_eq_false, Nat.ble_eq] at hc
            have hr2 := run_store (P := P) g hb hc.2 hone
            have hww : w' = w.setCells (E.B b).1 ((E.B b).2 + (o + n * i.n)) (V.denL E news) := by rw [hr] at hr2; cases hr2; rfl
            subst hww
            refine ⟨_, hstp, ?_⟩
            have hs' := hs
            rw [← hq2] at hs'
            have := run_append_room_src w t tx ty e qi ht hq1 (E.B b).1 ((E.B b).2 + o) n cp xv k (V.denL E news) hs' hle (fun j hj => by
              rw [denL_len] at hj
              have := (cells_at he (show o + n * i.n + j < l.length by omega)).1
              simpa only [En.at, Nat.add_assoc, hq2] using this) (fun j hj => by
              rw [denL_len] at hj
              have := (cells_at he (show o + n * i.n + j < l.length by omega)).2
              simpa only [En.at, Nat.add_assoc, hq2] using this)
            rw [hq2] at this
            simpa only [En.at, Nat.add_assoc] using this
        have none0 : ∀ {cp : Nat}, k = 0 → n + k ≤ cp → (Builtin.append_ #[t, tx] ty #[.slice (some (E.at b o)) n cp, xv]).run P w = .ok (.slice (some (E.at b o)) n cp) w := fun {cp} hk hle => by
          subst hk
          have hnil : news = [] := List.eq_nil_of_length_eq_zero (by simpa using hnl)
          subst hnil
          have hs' := hs
          rw [← hq2] at hs'
          have := run_append_room_src w t tx ty e qi ht hq1 (E.B b).1 ((E.B b).2 + o) n cp xv 0 (V.denL E []) hs' hle (fun j hj => by rw [denL_len] at hj; cases hj) (fun j hj => by rw [denL_len] at hj; cases hj)
          simpa only [En.at, Nat.add_zero, V.denL, World.setCells] using this
        have olds : ∀ {q : List V} {cp : Nat}, lcut l o (n * i.n) = some q → (Builtin.firstCells i.n n (.slice (some (E.at b o)) n cp)).run P w.drew = .ok (V.denL E q).toArray w.drew := fun {q cp} hq => by
          obtain ⟨k1, k2⟩ := cell_den he hq
          exact run_firstCells_some w.drew i.n n (E.at b o) n cp (V.denL E q) k1 (by simpa using k2)
        have wfq : ∀ {m N c}, b < N → 0 < i.n → (V.q b o i.n m c).wf N h.zn := fun h1 h2 => by simp only [V.wf]; exact ⟨h1, h2⟩
        split at ha
        · rename_i cc
          split at ha
          · rename_i hle
            simp only [Nat.ble_eq] at hle
            split at ha
            · cases ha
              exact ⟨E, w, Stp.refl g, wfq hsw.1 h0, by simpa only [V.den] using none0 rfl hle⟩
            · split at ha
              · rename_i h2 hst
                cases ha
                obtain ⟨w', q1, q2⟩ := room hle hst
                refine ⟨E, w', q1, ?_, by simpa only [V.den] using q2⟩
                simp only [V.wf]
                exact ⟨Nat.lt_of_lt_of_le hsw.1 q1.n, h0⟩
              · cases ha
          · rename_i hle
            split at ha
            · rename_i q hq
              cases ha
              have hq0 := lcut_some _ _ _ _ hq
              have hgt : cc < n + k := by
                by_cases c : n + k ≤ cc
                · rw [Nat.ble_eq_true_of_le c] at hle; cases hle
                · omega
              obtain ⟨E', w', q1, q2⟩ := grow_new (ty := ty) (cap := cc) g ht hi h0 hbt (lcut_wf hq (g.wf.wf hb)) hq0.1 (olds hq) hs hnw hgt hkb
              exact ⟨E', w', q1, by simp only [V.wf]; exact ⟨Nat.lt_succ_self _, h0⟩, by simpa only [V.den] using q2⟩
            · cases ha
        · split at ha
          · rename_i hle
            simp only [Nat.ble_eq] at hle
            have hcp : n + k ≤ (E.C b - o) / i.n := (Nat.le_div_iff_mul_le h0).2 (by have := (he.2.2.2.1 rfl).1; omega)
            split at ha
            · cases ha
              exact ⟨E, w, Stp.refl g, wfq hsw.1 h0, by simpa only [V.den] using none0 rfl hcp⟩
            · split at ha
              · rename_i h2 hst
                cases ha
                obtain ⟨w', q1, q2⟩ := room hcp hst
                refine ⟨E, w', q1, ?_, by simpa only [V.den] using q2⟩
                simp only [V.wf]
                exact ⟨Nat.lt_of_lt_of_le hsw.1 q1.n, h0⟩
              · cases ha
          · split at ha
            · rename_i q hq
              split at ha
              · cases ha
              · rename_i hz
                cases ha
                have hq0 := lcut_some _ _ _ _ hq
                have hwr : (V.q h.n 0 i.n (n + k) none).wf (h.n + 1) h.zn := by simp only [V.wf]; exact ⟨Nat.lt_succ_self _, h0⟩
                by_cases hle : n + k ≤ (E.C b - o) / i.n
                · have hle2 := (Nat.le_div_iff_mul_le h0).1 hle
                  have hroom := he.2.2.2.1 rfl
                  have hpos : 0 < k ∨ k = 0 := by omega
                  have hC : o + (n + k) * i.n ≤ E.C b := by
                    have : o ≤ E.C b := by omega
                    omega
                  have hst := grow_in g hb hq hnl hnw hC hz
                  refine ⟨_, _, hst, hwr, ?_⟩
                  have hs' := hs
                  rw [← hq2] at hs'
                  have hadd : (n + k) * i.n = n * i.n + k * i.n := Nat.add_mul _ _ _
                  have := run_append_room_src w t tx ty e qi ht hq1 (E.B b).1 ((E.B b).2 + o) n ((E.C b - o) / i.n) xv k (V.denL E news) hs' hle (fun j hj => by
                    rw [denL_len] at hj
                    have := (hroom.2 (o + n * i.n + j) (by omega)).1
                    simpa only [En.at, Nat.add_assoc, hq2] using this) (fun j hj => by
                    rw [denL_len] at hj
                    have := (hroom.2 (o + n * i.n + j) (by omega)).2
                    simpa only [En.at, Nat.add_assoc, hq2] using this)
                  rw [hq2] at this
                  simp only [V.den, En.new_at, Nat.add_zero]
                  simp only [En.new, if_true, Nat.sub_zero]
                  simpa only [En.at, Nat.add_assoc] using this
                · obtain ⟨E', w', q1, q2⟩ := grow_new (ty := ty) (cap := (E.C b - o) / i.n) g ht hi h0 hbt (lcut_wf hq (g.wf.wf hb)) hq0.1 (olds hq) hs hnw (by omega) hkb
                  refine ⟨E', w', ?_, hwr, by simpa only [V.den] using q2⟩
                  have hbn : b < h.n := g.wf.lt hb
                  have hbg : (h.new (.cells (q ++ news) true)).get b = some (.cells l true) := by rw [Hp.get_new_ne _ _ (Nat.ne_of_lt hbn)]; exact hb
                  have gk := q1.gd.kill b hbg
                  have hsame : ∀ j, ((h.new (.cells (q ++ news) true)).put b .dead).get j = ((h.put b .dead).new (.cells (q ++ news) true)).get j := fun j => by
                    by_cases e1 : j = b
                    · subst e1
                      rw [Hp.get_put, Hp.get_new_ne (h.put j .dead) _ (Nat.ne_of_lt hbn), Hp.get_put]
                    · rw [Hp.get_put_ne _ _ e1]
                      by_cases e2 : j = h.n
                      · subst e2
                        rw [Hp.get_new]
                        exact (Hp.get_new (h.put b .dead) _).symm
                      · rw [Hp.get_new_ne _ _ e2, Hp.get_new_ne (h.put b .dead) _ e2, Hp.get_put_ne _ _ e1]
                  refine ⟨⟨gk.bel, ⟨fun {j f} hj => gk.wf.lt ((hsame j).trans hj), fun {j f} hj => gk.wf.wf ((hsame j).trans hj), gk.wf.fzl⟩, fun {j f} hj => gk.ent ((hsame j).trans hj), fun {j1 j2 f1 f2} hj1 hj2 => gk.inj ((hsame j1).trans hj1) ((hsame j2).trans hj2)⟩, q1.ext, q1.n, q1.zn, q1.fz, fun j hj => ?_⟩
                  rw [← hsame, Hp.get_put_ne]
                  · exact q1.fr j hj
                  · intro e
                    exact hz (List.any_eq_true.2 ⟨j, hj, by rw [e]; exact Nat.beq_refl _⟩)
            · cases ha
          · cases ha
      · cases ha
    · cases ha
  · cases ha
end
end Go.Proofs.Rn
