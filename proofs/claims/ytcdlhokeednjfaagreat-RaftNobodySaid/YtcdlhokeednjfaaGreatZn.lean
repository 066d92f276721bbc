/- A runner: its tables; over any program; no conditions. -/
import Derived.Test.YtcdlhokeednjfaaGreatZm
namespace Go.Proofs.Rn
open Go Go.RowKit Go.Proofs.Own

/-- A cell of zero. -/
def v1 : V → Value → Bool
  | .i k n, .int k' m => decide (k = k') && n == m
  | .b x, .bool y => x == y
  | .s [], .string t => t.data.toList.isEmpty
  | .o (.pointer none), .pointer none => true
  | .o (.slice none a c), .slice none n d => a == n && c == d
  | .o (.map none), .map none => true
  | .o .nilFunc, .nilFunc => true
  | .o .nilIface, .nilIface => true
  | _, _ => false
def vL : List V → List Value → Bool
  | [], [] => true
  | a :: l, x :: m => v1 a x && vL l m
  | _, _ => false
theorem v1_ok {a : V} {x : Value} (h : v1 a x = true) : (∀ E, a.den E = x) ∧ a.one = true ∧ ∀ n zn, a.wf n zn := by
  unfold v1 at h
  split at h
  · simp only [Bool.and_eq_true, decide_eq_true_eq, beq_iff_eq] at h
    exact ⟨fun E => by simp only [V.den, h.1, h.2], rfl, fun _ _ => by simp only [V.wf]⟩
  · simp only [beq_iff_eq] at h
    exact ⟨fun E => by simp only [V.den, h], rfl, fun _ _ => by simp only [V.wf]⟩
  · rename_i t
    refine ⟨fun E => ?_, rfl, fun _ _ => by simp only [V.wf]⟩
    simp only [V.den]
    congr 1
    cases t with
    | mk d =>
      unfold mkS
      congr 1
      simp only [List.isEmpty_iff, Array.toList_eq_nil_iff] at h
      rw [h]
      rfl
  · exact ⟨fun E => by simp only [V.den], rfl, fun _ _ => by simp only [V.wf]⟩
  · simp only [Bool.and_eq_true, beq_iff_eq] at h
    exact ⟨fun E => by simp only [V.den, h.1, h.2], rfl, fun _ _ => by simp only [V.wf]⟩
  · exact ⟨fun E => by simp only [V.den], rfl, fun _ _ => by simp only [V.wf]⟩
  · exact ⟨fun E => by simp only [V.den], rfl, fun _ _ => by simp only [V.wf]⟩
  · exact ⟨fun E => by simp only [V.den], rfl, fun _ _ => by simp only [V.wf]⟩
  · cases h
theorem vL_ok : ∀ {l : List V} {m : List Value}, vL l m = true → (∀ E, V.denL E l = m) ∧ oneVL l = true ∧ ∀ n zn, V.wfL n zn l
  | [], [], _ => ⟨fun E => rfl, rfl, fun _ _ => trivial⟩
  | a :: l, x :: m, h => by
    simp only [vL, Bool.and_eq_true] at h
    obtain ⟨a1, a2, a3⟩ := v1_ok h.1
    obtain ⟨b1, b2, b3⟩ := vL_ok h.2
    exact ⟨fun E => by rw [V.denL, a1, b1], by rw [oneVL, a2, b2]; rfl, fun n zn => ⟨a3 n zn, b3 n zn⟩⟩
  | [], _ :: _, h => by cases h
  | _ :: _, [], h => by cases h
def kB (P : Program) : TypeDesc → TK → Bool
  | .int k, .int k' => decide (k = k')
  | .bool, .bool => true
  | .string, .str => true
  | .pointer _, .ptr => true
  | .slice e, .sl e' => e == e'
  | .map k e, .mp k' e' => k == k' && e == e'
  | .array n e, .arr n' e' => n == n' && e == e'
  | .struct fs, .st l => fs.toList.mapM (fun f => (P.info? f.type).map fun i => (f.offset, f.type, i.size)) == some l
  | .func _ _ _, .fn => true
  | d, .o => !d.isRow
  | _, _ => false
theorem kB_ok {P : Program} {d : TypeDesc} {k : TK} (h : kB P d k = true) : kOk P d k := by
  unfold kB at h
  unfold kOk
  split at h <;> first | trivial | (simp only [decide_eq_true_eq] at h; exact h) | (simp only [beq_iff_eq] at h; exact h) | (simp only [Bool.and_eq_true, beq_iff_eq] at h; exact h) | (cases h; done) | skip
  all_goals
    cases d <;> first | rfl | (simp_all [TypeDesc.isRow]; done) | skip
def zB (i : TJ) : Option Value → Bool
  | some (.agg a) => isAgg' i.k && vL i.z a.toList
  | some v => !isAgg' i.k && vL i.z [v]
  | none => false
def tyB (P : Program) (t : TypeId) (i : TJ) : Bool := match P.info? t, P.underlying t with
  | some q, some d => q.size == i.n && q.bytes == i.bt && zB i q.zero && i.z.length == i.n && kB P d i.k && (!i.eq || plainEq P t)
  | _, _ => false
theorem zB_ok {i : TJ} {z : Option Value} (h : zB i z = true) (E : En) : z = some ((zeroV i).den E) ∧ ((zeroV i).den E).cells = (V.denL E i.z).toArray ∧ oneVL i.z = true ∧ ∀ n zn, V.wfL n zn i.z := by
  unfold zB at h
  split at h
  · rename_i a
    simp only [Bool.and_eq_true] at h
    obtain ⟨b1, b2, b3⟩ := vL_ok h.2
    unfold zeroV
    rw [if_pos h.1]
    simp only [V.den, b1, Value.cells]
    exact ⟨trivial, trivial, b2, b3⟩
  · rename_i v hv
    simp only [Bool.and_eq_true, Bool.not_eq_true'] at h
    obtain ⟨b1, b2, b3⟩ := vL_ok h.2
    unfold zeroV
    rw [h.1]
    match hz : i.z, h.2 with
    | [a], h2 =>
      rw [hz] at b1 b2 b3
      have e := b1 E
      simp only [V.denL, List.cons.injEq, and_true] at e
      simp only [Bool.false_eq_true, if_false, V.denL]
      rw [e]
      refine ⟨rfl, ?_, b2, b3⟩
      cases v <;> first | rfl | exact absurd rfl (hv _)
    | [], h2 => cases h2
    | a :: b :: l, h2 => simp [vL] at h2
  · cases h
theorem tyB_ok {P : Program} {t : TypeId} {i : TJ} (h : tyB P t i = true) : TyOk P t i ∧ (i.eq = true → plainEq P t = true) := by
  unfold tyB at h
  split at h
  · rename_i q d hq hd
    simp only [Bool.and_eq_true, beq_iff_eq] at h
    obtain ⟨⟨⟨⟨⟨h1, h2⟩, h3⟩, h4⟩, h5⟩, h6⟩ := h
    refine ⟨⟨⟨q, hq, h1, h2⟩, fun E => ⟨q, hq, (zB_ok h3 E).1, (zB_ok h3 E).2.1⟩, fun E => oneVL_den E (zB_ok h3 E).2.2.1, (zB_ok h3 ⟨fun _ => (0, 0), fun _ => 0, fun _ => (⟨0, 0, none⟩, 0)⟩).2.2.2, h4, ⟨d, hd, kB_ok h5⟩⟩, fun e => ?_⟩
    rw [e] at h6
    exact h6
  · cases h
def Tr.all {α : Type} (p : Nat → α → Bool) : Tr α → Nat → Nat → Bool
  | .e, _, _ => true
  | .n l v r, a, b => (match v with | some x => p b x | none => true) && l.all p (2 * a) (a + b) && r.all p (2 * a) (2 * a + b)
theorem Tr.all_ok {α : Type} {p : Nat → α → Bool} : ∀ {t : Tr α} {a b : Nat}, t.all p a b = true → ∀ {i : Nat} {x : α}, t.get i = some x → p (a * i + b) x = true
  | .e, a, b, h, i, x, hi => by rw [Tr.get] at hi; cases hi
  | .n l v r, a, b, h, i, x, hi => by
    simp only [Tr.all, Bool.and_eq_true] at h
    obtain ⟨⟨h1, h2⟩, h3⟩ := h
    cases i with
    | zero =>
      simp only [Tr.get] at hi
      rw [hi] at h1
      simpa using h1
    | succ i =>
      simp only [Tr.get] at hi
      split at hi
      · rename_i e
        have := Tr.all_ok h2 hi
        have e2 := Nat.eq_of_beq_eq_true e
        rw [show a * (i + 1) + b = 2 * a * (i / 2) + (a + b) by
          have : i = 2 * (i / 2) := by omega
          rw [show 2 * a * (i / 2) = a * (2 * (i / 2)) by rw [Nat.mul_comm 2 a, Nat.mul_assoc], ← this, Nat.mul_succ]
          omega]
        exact this
      · rename_i e
        have := Tr.all_ok h3 hi
        have e2 : i % 2 ≠ 0 := fun q => by rw [q] at e; cases e
        rw [show a * (i + 1) + b = 2 * a * (i / 2) + (2 * a + b) by
          have : i = 2 * (i / 2) + 1 := by omega
          rw [show 2 * a * (i / 2) = a * (2 * (i / 2)) by rw [Nat.mul_comm 2 a, Nat.mul_assoc]]
          rw [show a * (i + 1) = a * (2 * (i / 2) + 2) by congr 1; omega, Nat.mul_add]
          omega]
        exact this
def tyAll (P : Program) (T : Tr TJ) : Bool := T.all (tyB P) 1 0
theorem tyAll_ok {P : Program} {T : Tr TJ} (h : tyAll P T = true) : TTok P T.get ∧ ∀ t i, T.get t = some i → i.eq = true → plainEq P t = true := by
  have k : ∀ {t i}, T.get t = some i → tyB P t i = true := fun hi => by
    have := Tr.all_ok h hi
    rwa [Nat.one_mul, Nat.add_zero] at this
  exact ⟨fun t i hi => (tyB_ok (k hi)).1, fun t i hi => (tyB_ok (k hi)).2⟩
/-- A table of functions tells the program's own. -/
def fnB (i : FI) : Bool := !(i.fn.name == "runtime.NumGoroutine") && (match i.fn.body with | some c => plB i.pls c | none => true)
def fnAll (T : Tr FI) : List Func → Nat → Prop
  | [], _ => True
  | f :: l, n => ((∃ i, T.get n = some i ∧ i.fn = f ∧ fnB i = true) ∨ T.get n = none) ∧ fnAll T l (n + 1)
theorem fnAll_get {T : Tr FI} : ∀ {l : List Func} {n : Nat}, fnAll T l n → ∀ {j : Nat} {i : FI}, j < l.length → T.get (n + j) = some i → l[j]? = some i.fn ∧ fnB i = true
  | f :: l, n, h, 0, i, hj, hi => by
    rw [Nat.add_zero] at hi
    rcases h.1 with ⟨k, q1, q2, q3⟩ | q
    · rw [hi] at q1
      cases q1
      exact ⟨by rw [← q2]; rfl, q3⟩
    · rw [hi] at q
      cases q
  | f :: l, n, h, j+1, i, hj, hi => by
    have := fnAll_get h.2 (j := j) (i := i) (by simpa using hj) (by rw [← hi]; congr 1; omega)
    simpa using this
  | [], _, _, _, _, hj, _ => absurd hj (Nat.not_lt_zero _)
def ltB (n : Nat) (j : Nat) (_ : FI) : Bool := Nat.blt j n
theorem fn_ok {P : Program} {T : Tr FI} {l : List Func} {n : Nat} (hl : P.funcs = l.toArray) (h : fnAll T l 0) (hn : l.length = n) (hb : T.all (ltB n) 1 0 = true) :
    ∀ f i, T.get f = some i → P.funcs[f]? = some i.fn ∧ (i.fn.name == "runtime.NumGoroutine") = false ∧ ∀ c, i.fn.body = some c → plB i.pls c = true := fun f i hi => by
  have h1 := Tr.all_ok hb hi
  simp only [ltB, Nat.blt_eq, Nat.one_mul, Nat.add_zero] at h1
  obtain ⟨h3, h2⟩ := fnAll_get h (j := f) (i := i) (by omega) (by rw [Nat.zero_add]; exact hi)
  simp only [fnB, Bool.and_eq_true, Bool.not_eq_true'] at h2
  refine ⟨?_, h2.1, fun c hc => ?_⟩
  · rw [hl, List.getElem?_toArray]
    exact h3
  · have := h2.2
    rw [hc] at this
    exact this
end Go.Proofs.Rn
