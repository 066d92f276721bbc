/- A runner: a program is run on values that are told by window; values, trees, memory; over any program; no conditions. -/
import Derived.Test.YtcdlhokeednjfaaGreatFrm
import Derived.Deep.AppendSrc
namespace Go.Proofs.Rn
open Go Go.RowKit Go.Proofs.Own

/-- Values. p i o: the cell o of the window i; q: a slice of a window (c: its capacity, where it is known); z: an empty slice at a row's end; m: a map. -/
inductive V where
  | i (k : IntKind) (n : Int)
  | b (b : Bool)
  | s (l : List Nat)
  | o (x : Value)
  | p (i o : Nat)
  | q (i o es n : Nat) (c : Option Nat)
  | z (i o es l : Nat)
  | m (i : Nat)
  | g (l : List V)
  | t (l : List V)
  | f (fn : Fn) (a c : List V)
  deriving Inhabited
inductive TK where
  | int (k : IntKind) | bool | str | ptr | sl (e : TypeId) | mp (k e : TypeId) | arr (n : Nat) (e : TypeId) | st (fs : List (Nat × TypeId × Nat)) | fn | o
/-- A type: cells, bytes, zero's cells, what it is, whether its rows are compared field by field. -/
structure TJ where
  n : Nat
  bt : Nat
  z : List V
  k : TK
  eq : Bool
inductive Tr (α : Type) where
  | e
  | n (l : Tr α) (v : Option α) (r : Tr α)
def Tr.get {α : Type} : Tr α → Nat → Option α
  | .e, _ => none
  | .n l v r, i => match i with
    | 0 => v
    | i+1 => match Nat.beq (i % 2) 0 with
      | true => l.get (i / 2)
      | false => r.get (i / 2)
def Tr.set {α : Type} : Nat → Tr α → Nat → α → Tr α
  | 0, t, _, _ => t
  | d+1, .e, i, x => match i with
    | 0 => .n .e (some x) .e
    | i+1 => match Nat.beq (i % 2) 0 with
      | true => .n (Tr.set d .e (i / 2) x) none .e
      | false => .n .e none (Tr.set d .e (i / 2) x)
  | d+1, .n l v r, i, x => match i with
    | 0 => .n l (some x) r
    | i+1 => match Nat.beq (i % 2) 0 with
      | true => .n (Tr.set d l (i / 2) x) v r
      | false => .n l v (Tr.set d r (i / 2) x)
def Tr.put {α : Type} (t : Tr α) (i : Nat) (x : α) : Tr α := Tr.set (i + 1) t i x
theorem Tr.get_e {α : Type} (i : Nat) : (Tr.e : Tr α).get i = none := by rw [Tr.get]
theorem Tr.get_set {α : Type} : ∀ (d : Nat) (t : Tr α) (i : Nat) (x : α), i < d → (Tr.set d t i x).get i = some x
  | 0, _, _, _, h => absurd h (Nat.not_lt_zero _)
  | d+1, .e, 0, x, _ => rfl
  | d+1, .n l v r, 0, x, _ => rfl
  | d+1, .e, i+1, x, h => by
    have hd : i / 2 < d := Nat.lt_of_le_of_lt (Nat.div_le_self i 2) (by omega)
    rw [Tr.set]
    split
    · rename_i e
      simp only [Tr.get, e]
      exact Tr.get_set d _ _ x hd
    · rename_i e
      simp only [Tr.get, e]
      exact Tr.get_set d _ _ x hd
  | d+1, .n l v r, i+1, x, h => by
    have hd : i / 2 < d := Nat.lt_of_le_of_lt (Nat.div_le_self i 2) (by omega)
    rw [Tr.set]
    split
    · rename_i e
      simp only [Tr.get, e]
      exact Tr.get_set d _ _ x hd
    · rename_i e
      simp only [Tr.get, e]
      exact Tr.get_set d _ _ x hd
theorem half_ne {i j : Nat} {b : Bool} (h : i ≠ j) (hi : Nat.beq (i % 2) 0 = b) (hj : Nat.beq (j % 2) 0 = b) : i / 2 ≠ j / 2 := fun e => h (by
  have h1 : i % 2 = j % 2 := by
    cases b
    · have a1 : i % 2 ≠ 0 := fun q => by rw [q] at hi; cases hi
      have a2 : j % 2 ≠ 0 := fun q => by rw [q] at hj; cases hj
      omega
    · rw [Nat.eq_of_beq_eq_true hi, Nat.eq_of_beq_eq_true hj]
  omega)
theorem Tr.get_set_ne {α : Type} : ∀ (d : Nat) (t : Tr α) (i : Nat) (x : α) (j : Nat), j ≠ i → (Tr.set d t i x).get j = t.get j
  | 0, _, _, _, _, _ => by rw [Tr.set]
  | d+1, .e, 0, x, j, h => by
    cases j with
    | zero => exact absurd rfl h
    | succ j => simp only [Tr.set, Tr.get]; split <;> rfl
  | d+1, .n l v r, 0, x, j, h => by
    cases j with
    | zero => exact absurd rfl h
    | succ j => simp only [Tr.set, Tr.get]
  | d+1, .e, i+1, x, j, h => by
    rw [Tr.set]
    cases j with
    | zero => split <;> simp only [Tr.get]
    | succ j =>
      split <;> rename_i e <;> simp only [Tr.get] <;> split <;> rename_i e'
      · rw [Tr.get_set_ne d _ _ x _ (half_ne (fun q => h (by rw [q])) e' e)]
        exact Tr.get_e _
      · rfl
      · rfl
      · rw [Tr.get_set_ne d _ _ x _ (half_ne (fun q => h (by rw [q])) e' e)]
        exact Tr.get_e _
  | d+1, .n l v r, i+1, x, j, h => by
    rw [Tr.set]
    cases j with
    | zero => split <;> simp only [Tr.get]
    | succ j =>
      split <;> rename_i e <;> simp only [Tr.get] <;> split <;> rename_i e'
      · exact Tr.get_set_ne d _ _ x _ (half_ne (fun q => h (by rw [q])) e' e)
      · rfl
      · rfl
      · exact Tr.get_set_ne d _ _ x _ (half_ne (fun q => h (by rw [q])) e' e)
theorem Tr.get_put {α : Type} (t : Tr α) (i : Nat) (x : α) : (t.put i x).get i = some x := Tr.get_set _ _ _ _ (Nat.lt_succ_self i)
theorem Tr.get_put_ne {α : Type} (t : Tr α) {i j : Nat} (x : α) (h : j ≠ i) : (t.put i x).get j = t.get j := Tr.get_set_ne _ _ _ _ _ h
/-- What a window shows. u: a row whose capacity is not known. -/
inductive Ent where
  | dead
  | cells (l : List V) (u : Bool)
  | map (es : List (V × V × Nat)) (clock : Nat)
  | siter (s : List Nat) (pos : Nat)
  | miter (m : Option Nat) (since : Nat) (seen : List Nat) (stepped : Nat)
structure Hp where
  n : Nat
  zn : Nat
  t : Tr Ent
  fz : List (Nat × Nat × Nat)
/-- Is a window among those that are not to be changed? some of its cells? -/
def fzHas (fz : List (Nat × Nat × Nat)) (b : Nat) : Bool := fz.any fun e => Nat.beq e.1 b
def fzHit (fz : List (Nat × Nat × Nat)) (b lo hi : Nat) : Bool := fz.any fun e => Nat.beq e.1 b && (Nat.blt e.2.1 hi && Nat.blt lo e.2.2)
def Hp.get (h : Hp) (i : Nat) : Option Ent := h.t.get i
def Hp.put (h : Hp) (i : Nat) (e : Ent) : Hp := ⟨h.n, h.zn, h.t.put i e, h.fz⟩
def Hp.new (h : Hp) (e : Ent) : Hp := ⟨h.n + 1, h.zn, h.t.put h.n e, h.fz⟩
structure St where
  tm : Tr V
  nt : Nat
  h : Hp
-- ROWS
def lget {α : Type} : List α → Nat → Option α
  | [], _ => none
  | a :: _, 0 => some a
  | _ :: l, n+1 => lget l n
def lcut {α : Type} : List α → Nat → Nat → Option (List α)
  | _, 0, 0 => some []
  | [], 0, _+1 => none
  | a :: l, 0, n+1 => match lcut l 0 n with | some r => some (a :: r) | none => none
  | [], _+1, _ => none
  | _ :: l, o+1, n => lcut l o n
def lput {α : Type} : List α → Nat → List α → List α
  | l, 0, [] => l
  | [], _, _ => []
  | _ :: l, 0, x :: r => x :: lput l 0 r
  | a :: l, o+1, r => a :: lput l o r
def repL : Nat → List V → List V
  | 0, _ => []
  | n+1, z => z ++ repL n z
theorem lget_eq {α : Type} : ∀ (l : List α) (n : Nat), lget l n = l[n]?
  | [], _ => rfl
  | _ :: _, 0 => rfl
  | a :: l, n+1 => by rw [lget, lget_eq l n]; rfl
theorem lcut_some {α : Type} : ∀ (l : List α) (o n : Nat) (r : List α), lcut l o n = some r → r.length = n ∧ o + n ≤ l.length ∧ ∀ j, j < n → r[j]? = l[o + j]?
  | l, 0, 0, r, h => by
    simp only [lcut, Option.some.injEq] at h
    subst h
    exact ⟨rfl, Nat.zero_le _, fun j hj => absurd hj (Nat.not_lt_zero j)⟩
  | [], 0, n+1, r, h => by simp [lcut] at h
  | a :: l, 0, n+1, r, h => by
    rw [lcut] at h
    split at h
    · rename_i s hs
      cases h
      obtain ⟨h1, h2, h3⟩ := lcut_some l 0 n s hs
      refine ⟨by simp [h1], by simp; omega, fun j hj => ?_⟩
      cases j with
      | zero => simp
      | succ j => have := h3 j (by omega); simpa using this
    · cases h
  | [], _+1, n, r, h => by simp [lcut] at h
  | a :: l, o+1, n, r, h => by
    rw [lcut] at h
    obtain ⟨h1, h2, h3⟩ := lcut_some l o n r h
    refine ⟨h1, by simp; omega, fun j hj => ?_⟩
    rw [h3 j hj, show o + 1 + j = o + j + 1 by omega]
    rfl
theorem lput_eq {α : Type} : ∀ (l : List α) (o : Nat) (r : List α), o + r.length ≤ l.length → lput l o r = l.take o ++ r ++ l.drop (o + r.length)
  | l, 0, [], _ => by simp [lput]
  | [], 0, _ :: _, h => by simp at h
  | _ :: l, 0, x :: r, h => by
    rw [lput, lput_eq l 0 r (by simp at h; omega)]
    simp
  | [], _+1, r, h => by
    simp only [List.length_nil] at h
    omega
  | a :: l, o+1, r, h => by
    rw [lput, lput_eq l o r (by simp at h; omega)]
    simp [show o + 1 + r.length = o + r.length + 1 by omega]
theorem lput_get {α : Type} {l : List α} {o : Nat} {r : List α} (h : o + r.length ≤ l.length) (j : Nat) : (lput l o r)[j]? = if o ≤ j ∧ j < o + r.length then r[j - o]? else l[j]? := by
  rw [lput_eq l o r h]
  have h1 : (l.take o).length = o := by rw [List.length_take]; omega
  by_cases h2 : j < o
  · rw [if_neg (by omega), List.append_assoc, List.getElem?_append_left (by omega), List.getElem?_take_of_lt h2]
  · by_cases h3 : j < o + r.length
    · rw [if_pos ⟨by omega, h3⟩, List.getElem?_append_left (by rw [List.length_append]; omega), List.getElem?_append_right (by omega), h1]
    · rw [if_neg (by omega), List.getElem?_append_right (by rw [List.length_append]; omega), List.length_append, h1, List.getElem?_drop]
      congr 1
      omega
theorem lput_length {α : Type} {l : List α} {o : Nat} {r : List α} (h : o + r.length ≤ l.length) : (lput l o r).length = l.length := by
  rw [lput_eq l o r h]
  simp only [List.length_append, List.length_take, List.length_drop]
  omega
-- WHAT A VALUE IS
structure En where
  B : Nat → Nat × Nat
  C : Nat → Nat
  Z : Nat → Addr × Nat
def mkS (l : List Nat) : ByteArray := ⟨(l.map UInt8.ofNat).toArray⟩
def En.at (E : En) (i o : Nat) : Addr := ⟨(E.B i).1, (E.B i).2 + o, none⟩
mutual
def V.den (E : En) : V → Value
  | .i k n => .int k n
  | .b x => .bool x
  | .s l => .string (mkS l)
  | .o x => x
  | .p w u => .pointer (some (E.at w u))
  | .q w u r n c => .slice (some (E.at w u)) n (match c with | some c => c | none => (E.C w - u) / r)
  | .z w u r l => .slice (some (if (E.C w - u) / r = l then E.at w u else E.at w (u + l * r))) 0 ((E.C w - u) / r - l)
  | .m w => .map (some (E.B w).1)
  | .g l => .agg (V.denL E l).toArray
  | .t l => .tuple (V.denL E l).toArray
  | .f fn a c => .func fn (V.denL E a).toArray (V.denL E c).toArray
def V.denL (E : En) : List V → List Value
  | [] => []
  | a :: l => a.den E :: V.denL E l
end
mutual
def V.wf (n zn : Nat) : V → Prop
  | .i _ _ | .b _ | .s _ | .o _ => True
  | .p j _ | .m j => j < n
  | .q j _ es _ _ => j < n ∧ 0 < es
  | .z j _ es _ => j < n ∧ 0 < es
  | .g l | .t l => V.wfL n zn l
  | .f _ a c => V.wfL n zn a ∧ V.wfL n zn c
def V.wfL (n zn : Nat) : List V → Prop
  | [] => True
  | a :: l => a.wf n zn ∧ V.wfL n zn l
end
theorem denL_eq (E : En) : ∀ l, V.denL E l = l.map (V.den E)
  | [] => by rw [V.denL]; rfl
  | a :: l => by rw [V.denL, denL_eq E l]; rfl
theorem denL_get (E : En) (l : List V) (j : Nat) : (V.denL E l)[j]? = (l[j]?).map (V.den E) := by rw [denL_eq, List.getElem?_map]
theorem denL_len (E : En) (l : List V) : (V.denL E l).length = l.length := by rw [denL_eq, List.length_map]
theorem wfL_iff {n zn : Nat} : ∀ {l : List V}, V.wfL n zn l ↔ ∀ v ∈ l, v.wf n zn
  | [] => by simp [V.wfL]
  | a :: l => by simp [V.wfL, wfL_iff (l := l)]
/-- Memory goes on: what was told of the first windows is told still. -/
structure Ext (n zn : Nat) (E E' : En) : Prop where
  B : ∀ i, i < n → E'.B i = E.B i
  C : ∀ i, i < n → E'.C i = E.C i
  Z : ∀ j, j < zn → E'.Z j = E.Z j
theorem Ext.refl (n zn : Nat) (E : En) : Ext n zn E E := ⟨fun _ _ => rfl, fun _ _ => rfl, fun _ _ => rfl⟩
theorem Ext.trans {n zn n' zn' : Nat} {E E' E'' : En} (h : Ext n zn E E') (k : Ext n' zn' E' E'') (h1 : n ≤ n') (h2 : zn ≤ zn') : Ext n zn E E'' :=
  ⟨fun i hi => (k.B i (by omega)).trans (h.B i hi), fun i hi => (k.C i (by omega)).trans (h.C i hi), fun i hi => (k.Z i (by omega)).trans (h.Z i hi)⟩
mutual
theorem V.den_ext {n zn : Nat} {E E' : En} (h : Ext n zn E E') : ∀ v : V, v.wf n zn → v.den E' = v.den E
  | .i _ _, _ | .b _, _ | .s _, _ | .o _, _ => by simp only [V.den]
  | .p j _, w => by simp only [V.wf] at w; simp only [V.den, En.at, h.B j w]
  | .q j _ _ _ _, w => by simp only [V.wf] at w; simp only [V.den, En.at, h.B j w.1, h.C j w.1]
  | .z j _ _ _, w => by simp only [V.wf] at w; simp only [V.den, En.at, h.B j w.1, h.C j w.1]
  | .m j, w => by simp only [V.wf] at w; simp only [V.den, h.B j w]
  | .g l, w => by simp only [V.wf] at w; simp only [V.den, V.denL_ext h l w]
  | .t l, w => by simp only [V.wf] at w; simp only [V.den, V.denL_ext h l w]
  | .f _ a c, w => by simp only [V.wf] at w; simp only [V.den, V.denL_ext h a w.1, V.denL_ext h c w.2]
theorem V.denL_ext {n zn : Nat} {E E' : En} (h : Ext n zn E E') : ∀ l : List V, V.wfL n zn l → V.denL E' l = V.denL E l
  | [], _ => by simp only [V.denL]
  | a :: l, w => by simp only [V.wfL] at w; simp only [V.denL, V.den_ext h a w.1, V.denL_ext h l w.2]
end
mutual
theorem V.wf_mono {n zn n' zn' : Nat} (h1 : n ≤ n') (h2 : zn ≤ zn') : ∀ v : V, v.wf n zn → v.wf n' zn'
  | .i _ _, _ | .b _, _ | .s _, _ | .o _, _ => by simp only [V.wf]
  | .p j _, w => by simp only [V.wf] at w ⊢; omega
  | .q j _ _ _ _, w => by simp only [V.wf] at w ⊢; omega
  | .z j _ _ _, w => by simp only [V.wf] at w ⊢; omega
  | .m j, w => by simp only [V.wf] at w ⊢; omega
  | .g l, w => by simp only [V.wf] at w ⊢; exact V.wfL_mono h1 h2 l w
  | .t l, w => by simp only [V.wf] at w ⊢; exact V.wfL_mono h1 h2 l w
  | .f _ a c, w => by simp only [V.wf] at w ⊢; exact ⟨V.wfL_mono h1 h2 a w.1, V.wfL_mono h1 h2 c w.2⟩
theorem V.wfL_mono {n zn n' zn' : Nat} (h1 : n ≤ n') (h2 : zn ≤ zn') : ∀ l : List V, V.wfL n zn l → V.wfL n' zn' l
  | [], _ => by simp only [V.wfL]
  | a :: l, w => by simp only [V.wfL] at w ⊢; exact ⟨V.wf_mono h1 h2 a w.1, V.wfL_mono h1 h2 l w.2⟩
end
def Ent.wf (n zn : Nat) : Ent → Prop
  | .dead | .siter _ _ => True
  | .cells l _ => V.wfL n zn l
  | .map es _ => ∀ e ∈ es, e.1.wf n zn ∧ e.2.1.wf n zn
  | .miter m _ _ _ => ∀ i, m = some i → i < n
theorem Ent.wf_mono {n zn n' zn' : Nat} (h1 : n ≤ n') (h2 : zn ≤ zn') : ∀ e : Ent, e.wf n zn → e.wf n' zn'
  | .dead, _ | .siter _ _, _ => trivial
  | .cells l _, w => V.wfL_mono h1 h2 l w
  | .map _ _, w => fun e he => ⟨V.wf_mono h1 h2 _ (w e he).1, V.wf_mono h1 h2 _ (w e he).2⟩
  | .miter _ _ _ _, w => fun i hi => Nat.lt_of_lt_of_le (w i hi) h1
def mapO (E : En) (es : List (V × V × Nat)) (clock : Nat) : Obj := .map (es.map fun e => ⟨e.1.den E, e.2.1.den E, e.2.2⟩).toArray clock
/-- A window in memory. -/
def EntOk (E : En) (n0 i : Nat) (w : World) : Ent → Prop
  | .dead => True
  | .cells l u => n0 ≤ (E.B i).1 ∧ (E.B i).1 < w.heap.size ∧ (∀ (j : Nat) v, l[j]? = some v → w.cell? (E.at i j) = some (v.den E) ∧ w.frozen? (E.at i j) = false) ∧
    (u = true → l.length ≤ E.C i ∧ ∀ j, j < E.C i → (w.cell? (E.at i j)).isSome = true ∧ w.frozen? (E.at i j) = false) ∧ (u = false → (E.B i).2 = 0)
  | .map es c => n0 ≤ (E.B i).1 ∧ w.heap[(E.B i).1]? = some (mapO E es c)
  | .siter s p => n0 ≤ (E.B i).1 ∧ (E.B i).2 = 0 ∧ w.heap[(E.B i).1]? = some (.stringIter (mkS s) p)
  | .miter m a b c => n0 ≤ (E.B i).1 ∧ (E.B i).2 = 0 ∧ w.heap[(E.B i).1]? = some (.mapIter (m.map fun i => (E.B i).1) a b.toArray c)
theorem EntOk.lt {E : En} {n0 i : Nat} {w : World} {e : Ent} (h : EntOk E n0 i w e) (hd : e ≠ .dead) : n0 ≤ (E.B i).1 ∧ (E.B i).1 < w.heap.size := by
  cases e with
  | dead => exact absurd rfl hd
  | cells l u => exact ⟨h.1, h.2.1⟩
  | map _ c => exact ⟨h.1, (Array.getElem?_eq_some_iff.1 h.2).1⟩
  | siter s p => exact ⟨h.1, (Array.getElem?_eq_some_iff.1 h.2.2).1⟩
  | miter _ a b c => exact ⟨h.1, (Array.getElem?_eq_some_iff.1 h.2.2).1⟩
/-- .. it stays where its block stays. -/
theorem EntOk.kept {E : En} {n0 i : Nat} {w w' : World} {e : Ent} (h : EntOk E n0 i w e) (hs : w.heap.size ≤ w'.heap.size) (hb : e ≠ .dead → w'.heap[(E.B i).1]? = w.heap[(E.B i).1]?) : EntOk E n0 i w' e := by
  cases e with
  | dead => exact trivial
  | cells l u =>
    have hb := hb nofun
    refine ⟨h.1, Nat.lt_of_lt_of_le h.2.1 hs, fun j v hv => ?_, fun hu => ⟨(h.2.2.2.1 hu).1, fun j hj => ?_⟩, h.2.2.2.2⟩
    · rw [World.cell?_of_block (a := E.at i j) hb, World.frozen?_of_block (a := E.at i j) hb]
      exact h.2.2.1 j v hv
    · rw [World.cell?_of_block (a := E.at i j) hb, World.frozen?_of_block (a := E.at i j) hb]
      exact (h.2.2.2.1 hu).2 j hj
  | map es c => exact ⟨h.1, (hb nofun).trans h.2⟩
  | siter s p => exact ⟨h.1, h.2.1, (hb nofun).trans h.2.2⟩
  | miter m a b c => exact ⟨h.1, h.2.1, (hb nofun).trans h.2.2⟩
theorem EntOk.ext {E E' : En} {n zn n0 i : Nat} {w : World} {e : Ent} (x : Ext n zn E E') (hi : i < n) (hw : e.wf n zn) (h : EntOk E n0 i w e) : EntOk E' n0 i w e := by
  have hB := x.B i hi
  have hA : ∀ j, E'.at i j = E.at i j := fun j => by simp only [En.at, hB]
  cases e with
  | dead => exact trivial
  | cells l u =>
    refine ⟨by rw [hB]; exact h.1, by rw [hB]; exact h.2.1, fun j v hv => ?_, fun hu => ?_, fun hu => by rw [hB]; exact h.2.2.2.2 hu⟩
    · rw [hA, V.den_ext x v (wfL_iff.1 hw v (List.mem_of_getElem? hv))]
      exact h.2.2.1 j v hv
    · rw [x.C i hi]
      exact ⟨(h.2.2.2.1 hu).1, fun j hj => by rw [hA]; exact (h.2.2.2.1 hu).2 j hj⟩
  | map es c =>
    refine ⟨by rw [hB]; exact h.1, ?_⟩
    rw [hB, h.2]
    unfold mapO
    rw [show es.map (fun e => (⟨e.1.den E', e.2.1.den E', e.2.2⟩ : MapEntry)) = es.map (fun e => ⟨e.1.den E, e.2.1.den E, e.2.2⟩) from List.map_congr_left fun e he => by rw [V.den_ext x _ (hw e he).1, V.den_ext x _ (hw e he).2]]
  | siter s p => exact ⟨by rw [hB]; exact h.1, by rw [hB]; exact h.2.1, by rw [hB]; exact h.2.2⟩
  | miter m a b c =>
    refine ⟨by rw [hB]; exact h.1, by rw [hB]; exact h.2.1, ?_⟩
    rw [hB, h.2.2]
    congr 2
    cases m with
    | none => rfl
    | some j => simp only [Option.map_some, x.B j (hw j rfl)]
structure Hp.Wf (h : Hp) : Prop where
  lt : ∀ {i e}, h.get i = some e → i < h.n
  wf : ∀ {i e}, h.get i = some e → e.wf h.n h.zn
  fzl : ∀ i ∈ h.fz, i.1 < h.n
/-- The memory of a run that began at w0. -/
structure Gd (E : En) (w0 : World) (h : Hp) (w : World) : Prop where
  bel : Below w0.heap.size w0 w
  wf : h.Wf
  ent : ∀ {i e}, h.get i = some e → EntOk E w0.heap.size i w e
  inj : ∀ {i j e f}, h.get i = some e → h.get j = some f → e ≠ .dead → f ≠ .dead → (E.B i).1 = (E.B j).1 → i = j
section
variable {E : En} {w0 w w' : World} {h : Hp}
theorem Gd.size (g : Gd E w0 h w) : w0.heap.size ≤ w.heap.size := g.bel.size
/-- A step beside all windows. -/
theorem Gd.step (g : Gd E w0 h w) (hk : Kept w w' (fun _ => False)) : Gd E w0 h w' :=
  ⟨g.bel.trans (hk.below g.size nofun), g.wf, fun hi => (g.ent hi).kept hk.size fun hd => hk.block _ (EntOk.lt (g.ent hi) hd).2 id, g.inj⟩
/-- A step on blocks of no window. -/
theorem Gd.stepS (g : Gd E w0 h w) {S : Nat → Prop} (hk : Kept w w' S) (h0 : ∀ k, S k → w0.heap.size ≤ k) (hs : ∀ {j f}, h.get j = some f → f ≠ .dead → ¬ S (E.B j).1) : Gd E w0 h w' :=
  ⟨g.bel.trans (hk.below g.size h0), g.wf, fun hi => (g.ent hi).kept hk.size fun hd => hk.block _ (EntOk.lt (g.ent hi) hd).2 (hs hi hd), g.inj⟩
/-- A window is changed. -/
theorem Gd.put (g : Gd E w0 h w) {i : Nat} {e e' : Ent} (hi : h.get i = some e) (hd : e ≠ .dead) (hk : Kept w w' (fun k => k = (E.B i).1)) (hw : e'.wf h.n h.zn) (he : EntOk E w0.heap.size i w' e') : Gd E w0 (h.put i e') w' := by
  have hlt := (g.ent hi).lt hd
  have key : ∀ {j f}, (h.put i e').get j = some f → (j = i ∧ f = e') ∨ (j ≠ i ∧ h.get j = some f) := fun {j f} hj => by
    by_cases q : j = i
    · subst q
      have : (h.put j e').get j = some e' := Tr.get_put _ _ _
      rw [this] at hj
      exact .inl ⟨rfl, (Option.some.inj hj).symm⟩
    · exact .inr ⟨q, by rw [← hj]; exact (Tr.get_put_ne _ _ q).symm⟩
  refine ⟨g.bel.trans (hk.below g.size fun k hk => hk ▸ hlt.1), ⟨fun hj => ?_, fun hj => ?_, g.wf.fzl⟩, fun {j f} hj => ?_, fun {j k f f'} hj hk' fd fd' eb => ?_⟩
  · rcases key hj with ⟨rfl, _⟩ | ⟨_, hj⟩
    · exact g.wf.lt hi
    · exact g.wf.lt hj
  · rcases key hj with ⟨rfl, rfl⟩ | ⟨_, hj⟩
    · exact hw
    · exact g.wf.wf hj
  · rcases key hj with ⟨rfl, rfl⟩ | ⟨q, hj⟩
    · exact he
    · exact (g.ent hj).kept hk.size fun fd => hk.block _ (EntOk.lt (g.ent hj) fd).2 fun eb => q (g.inj hj hi fd hd eb)
  · rcases key hj with ⟨e1, e2⟩ | ⟨q, h1⟩ <;> rcases key hk' with ⟨e3, e4⟩ | ⟨q', h2⟩
    · rw [e1, e3]
    · exact e1.trans (g.inj hi h2 hd fd' (e1 ▸ eb))
    · exact (g.inj h1 hi fd hd (e3 ▸ eb)).trans e3.symm
    · exact g.inj h1 h2 fd fd' eb
/-- A window is of no use any more. -/
theorem Gd.kill (g : Gd E w0 h w) (i : Nat) {e : Ent} (hi : h.get i = some e) : Gd E w0 (h.put i .dead) w := by
  have key : ∀ {j f}, (h.put i .dead).get j = some f → (j = i ∧ f = .dead) ∨ (j ≠ i ∧ h.get j = some f) := fun {j f} hj => by
    by_cases q : j = i
    · subst q
      have : (h.put j .dead).get j = some .dead := Tr.get_put _ _ _
      rw [this] at hj
      exact .inl ⟨rfl, (Option.some.inj hj).symm⟩
    · exact .inr ⟨q, by rw [← hj]; exact (Tr.get_put_ne _ _ q).symm⟩
  refine ⟨g.bel, ⟨fun hj => ?_, fun hj => ?_, g.wf.fzl⟩, fun {j f} hj => ?_, fun {j k f f'} hj hk' fd fd' eb => ?_⟩
  · rcases key hj with ⟨rfl, _⟩ | ⟨_, hj⟩
    · exact g.wf.lt hi
    · exact g.wf.lt hj
  · rcases key hj with ⟨rfl, rfl⟩ | ⟨_, hj⟩
    · exact trivial
    · exact g.wf.wf hj
  · rcases key hj with ⟨rfl, rfl⟩ | ⟨_, hj⟩
    · exact trivial
    · exact g.ent hj
  · rcases key hj with ⟨_, e2⟩ | ⟨q, h1⟩
    · exact absurd e2 fd
    · rcases key hk' with ⟨_, e4⟩ | ⟨q', h2⟩
      · exact absurd e4 fd'
      · exact g.inj h1 h2 fd fd' eb
def En.new (E : En) (n : Nat) (b : Nat × Nat) (c : Nat) : En := ⟨fun i => if i = n then b else E.B i, fun i => if i = n then c else E.C i, E.Z⟩
theorem En.new_ext (E : En) (n zn : Nat) (b : Nat × Nat) (c : Nat) : Ext n zn E (E.new n b c) := ⟨fun i hi => if_neg (by omega), fun i hi => if_neg (by omega), fun _ _ => rfl⟩
theorem Gd.ext (g : Gd E w0 h w) {E' : En} (x : Ext h.n h.zn E E') : Gd E' w0 h w :=
  ⟨g.bel, g.wf, fun hi => (g.ent hi).ext x (g.wf.lt hi) (g.wf.wf hi), fun {i j e f} hi hj hd hd' eb => g.inj hi hj hd hd' (by rw [← x.B i (g.wf.lt hi), ← x.B j (g.wf.lt hj)]; exact eb)⟩
/-- A new window. -/
theorem Gd.new (g : Gd E w0 h w) {e : Ent} {b : Nat × Nat} {c : Nat} (hk : Kept w w' (fun _ => False)) (hw : e.wf (h.n + 1) h.zn) (he : EntOk (E.new h.n b c) w0.heap.size h.n w' e)
    (hb : ∀ {j f}, h.get j = some f → f ≠ .dead → (E.B j).1 ≠ b.1) : Gd (E.new h.n b c) w0 (h.new e) w' := by
  have g2 := (g.step hk).ext (E.new_ext h.n h.zn b c)
  have key : ∀ {j f}, (h.new e).get j = some f → (j = h.n ∧ f = e) ∨ (j < h.n ∧ h.get j = some f) := fun {j f} hj => by
    by_cases q : j = h.n
    · subst q
      have : (h.new e).get h.n = some e := Tr.get_put _ _ _
      rw [this] at hj
      exact .inl ⟨rfl, (Option.some.inj hj).symm⟩
    · have : h.get j = some f := by rw [← hj]; exact (Tr.get_put_ne _ _ q).symm
      exact .inr ⟨g.wf.lt this, this⟩
  have hb' : ∀ {j f}, j < h.n → h.get j = some f → f ≠ .dead → ((E.new h.n b c).B j).1 ≠ ((E.new h.n b c).B h.n).1 := fun {j f} hl hj fd => by
    simp only [En.new, if_true, if_neg (show j ≠ h.n by omega)]
    exact hb hj fd
  refine ⟨g2.bel, ⟨fun {j f} hj => ?_, fun {j f} hj => ?_, fun i hi => Nat.lt_succ_of_lt (g.wf.fzl i hi)⟩, fun {j f} hj => ?_, fun {j k f f'} hj hk' fd fd' eb => ?_⟩
  · show j < h.n + 1
    rcases key hj with ⟨rfl, _⟩ | ⟨hl, _⟩ <;> omega
  · rcases key hj with ⟨rfl, rfl⟩ | ⟨_, hj⟩
    · exact hw
    · exact Ent.wf_mono (Nat.le_succ _) (Nat.le_refl _) _ (g.wf.wf hj)
  · rcases key hj with ⟨rfl, rfl⟩ | ⟨_, hj⟩
    · exact he
    · exact g2.ent hj
  · rcases key hj with ⟨e1, e2⟩ | ⟨q, h1⟩ <;> rcases key hk' with ⟨e3, e4⟩ | ⟨q', h2⟩
    · rw [e1, e3]
    · exact (hb' q' h2 fd' (e1 ▸ eb.symm)).elim
    · exact (hb' q h1 fd (e3 ▸ eb)).elim
    · exact g2.inj h1 h2 fd fd' eb
theorem Gd.fresh (g : Gd E w0 h w) {j : Nat} {f : Ent} (hj : h.get j = some f) (fd : f ≠ .dead) : (E.B j).1 ≠ w.heap.size := by
  have := (EntOk.lt (g.ent hj) fd).2
  omega
end
end Go.Proofs.Rn
