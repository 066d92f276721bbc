/- A runner: one operation that changes no memory; over any program; no conditions. -/
import Derived.Test.YtcdlhokeednjfaaGreatZa
import Derived.Laws.StructEq
namespace Go.Proofs.Rn
open Go Go.RowKit Go.Proofs.Own

def isAgg' : TK → Bool
  | .arr _ _ | .st _ => true
  | _ => false
def zeroV (i : TJ) : V := if isAgg' i.k then .g i.z else match i.z with
  | [a] => a
  | l => .g l
def bytesL (s : ByteArray) : List Nat := s.data.toList.map (·.toNat)
def constV : Value → V
  | .int k n => .i k n
  | .bool b => .b b
  | .string s => .s (bytesL s)
  | x => .o x
theorem mkS_bytesL (s : ByteArray) : mkS (bytesL s) = s := by
  cases s with
  | mk d =>
    unfold mkS bytesL
    congr 1
    rw [List.map_map, show (UInt8.ofNat ∘ fun x : UInt8 => x.toNat) = id from funext fun x => by simp]
    simp
theorem constV_den (E : En) (x : Value) : (constV x).den E = x := by
  cases x <;> simp only [constV, V.den, mkS_bytesL]
theorem constV_wf (n zn : Nat) (x : Value) : (constV x).wf n zn := by
  cases x <;> simp only [constV, V.wf]
def unV : V → Option Value
  | .i k n => some (.int k n)
  | .b b => some (.bool b)
  | .s l => some (.string (mkS l))
  | _ => none
theorem unV_den {E : En} {v : V} {x : Value} (h : unV v = some x) : v.den E = x := by
  cases v <;> simp only [unV, Option.some.injEq, reduceCtorEq] at h <;> first | (cases h; done) | (subst h; simp only [V.den])
def pureRun {α : Type} (P : Program) : Sem α → Option α
  | .pure a => some a
  | .program k => pureRun P (k P)
  | _ => none
theorem pureRun_ok {α : Type} {P : Program} : ∀ {s : Sem α} {a : α}, pureRun P s = some a → ∀ w, s.run P w = .ok a w
  | .pure b, a, h, w => by
    simp only [pureRun, Option.some.injEq] at h
    subst h; rfl
  | .program k, a, h, w => by
    rw [pureRun] at h
    exact pureRun_ok h w
  | .load .., _, h, _ | .store .., _, h, _ | .new .., _, h, _ | .shape .., _, h, _ | .freeze .., _, h, _ | .frozen .., _, h, _ | .getObj .., _, h, _ | .setObj .., _, h, _ | .choose .., _, h, _ | .sys .., _, h, _ | .mark .., _, h, _ | .halt .., _, h, _ => by simp [pureRun] at h
-- TYPES
def kOk (P : Program) : TypeDesc → TK → Prop
  | .int k, .int k' => k = k'
  | .bool, .bool => True
  | .string, .str => True
  | .pointer _, .ptr => True
  | .slice e, .sl e' => e = e'
  | .map k e, .mp k' e' => k = k' ∧ e = e'
  | .array n e, .arr n' e' => n = n' ∧ e = e'
  | .struct fs, .st l => fs.toList.mapM (fun f => (P.info? f.type).map fun i => (f.offset, f.type, i.size)) = some l
  | .func _ _ _, .fn => True
  | d, .o => d.isRow = false
  | _, _ => False
structure TyOk (P : Program) (t : TypeId) (i : TJ) : Prop where
  info : ∃ q, P.info? t = some q ∧ q.size = i.n ∧ q.bytes = i.bt
  zero : ∀ E, ∃ q, P.info? t = some q ∧ q.zero = some ((zeroV i).den E) ∧ ((zeroV i).den E).cells = (V.denL E i.z).toArray
  one : ∀ (E : En), ∀ v ∈ V.denL E i.z, v.oneCell' = true
  zwf : ∀ n zn, V.wfL n zn i.z
  zlen : i.z.length = i.n
  und : ∃ d, P.underlying t = some d ∧ kOk P d i.k
def TTok (P : Program) (tt : TypeId → Option TJ) : Prop := ∀ t i, tt t = some i → TyOk P t i
theorem kOk_row {P : Program} {d : TypeDesc} {k : TK} (h : kOk P d k) : d.isRow = isAgg' k := by
  cases d <;> cases k <;> first | rfl | exact h.elim | exact h
def oneVal : Value → Bool
  | .agg _ | .tuple _ => false
  | _ => true
def V.one : V → Bool
  | .g _ | .t _ => false
  | .o x => oneVal x
  | _ => true
def oneVL : List V → Bool
  | [] => true
  | a :: l => a.one && oneVL l
theorem V.one_den (E : En) {a : V} (h : a.one = true) : (a.den E).oneCell' = true := by
  cases a with
  | o x => cases x <;> simp_all [V.one, oneVal, V.den, Value.oneCell']
  | g l => cases h
  | t l => cases h
  | _ => simp [V.den, Value.oneCell']
theorem oneVL_den (E : En) : ∀ {l : List V}, oneVL l = true → ∀ v ∈ V.denL E l, v.oneCell' = true
  | [], _, v, hv => by simp [V.denL] at hv
  | a :: l, h, v, hv => by
    simp only [oneVL, Bool.and_eq_true] at h
    rw [V.denL] at hv
    rcases List.mem_cons.1 hv with rfl | hv
    · exact V.one_den E h.1
    · exact oneVL_den E h.2 v hv
/-- The cells of a value. -/
def V.cs : V → Option (List V)
  | .g l => if oneVL l then some l else none
  | a => if a.one then some [a] else none
theorem V.cs_den (E : En) {a : V} {l : List V} (h : a.cs = some l) : (a.den E).cells = (V.denL E l).toArray ∧ ∀ v ∈ V.denL E l, v.oneCell' = true := by
  unfold V.cs at h
  split at h
  · split at h
    · cases h
      rename_i l0 hl
      exact ⟨by simp only [V.den, Value.cells], oneVL_den E hl⟩
    · cases h
  · split at h
    · cases h
      rename_i ho
      have h1 := V.one_den E ho
      refine ⟨?_, fun v hv => ?_⟩
      · rw [V.denL, V.denL]
        generalize a.den E = x at h1
        cases x <;> first | rfl | cases h1
      · rw [V.denL, V.denL] at hv
        obtain rfl := List.mem_singleton.1 hv
        exact h1
    · cases h
theorem V.cs_wf {n zn : Nat} {a : V} {l : List V} (h : a.cs = some l) (hw : a.wf n zn) : V.wfL n zn l := by
  unfold V.cs at h
  split at h
  · split at h
    · cases h
      simpa only [V.wf] using hw
    · cases h
  · split at h
    · cases h
      simp only [V.wfL, and_true]
      exact hw
    · cases h
section
variable {P : Program} {E : En} {w : World} {r : V}
theorem TyOk.agg {t : TypeId} {i : TJ} (h : TyOk P t i) : (isAgg t).run P w = .ok (isAgg' i.k) w := by
  obtain ⟨d, h1, h2⟩ := h.und
  unfold isAgg
  rw [Sem.run_bind, run_underlying h1 w, ← kOk_row h2]
  cases d <;> simp [TypeDesc.isRow]
theorem TyOk.sizeOf {t : TypeId} {i : TJ} (h : TyOk P t i) : (Go.sizeOf t).run P w = .ok i.n w := by
  obtain ⟨q, h1, h2, _⟩ := h.info
  simp [Go.sizeOf, typeInfo, h1, h2]
theorem TyOk.zeroR {t : TypeId} {i : TJ} (h : TyOk P t i) (E : En) : (zeroValue t).run P w = .ok ((zeroV i).den E) w := by
  obtain ⟨q, h1, h2, _⟩ := h.zero E
  simp [zeroValue, typeInfo, h1, h2]
theorem TyOk.under {t : TypeId} {i : TJ} (h : TyOk P t i) : ∃ d, (underlying t).run P w = .ok d w ∧ P.underlying t = some d ∧ kOk P d i.k := by
  obtain ⟨d, h1, h2⟩ := h.und
  exact ⟨d, run_underlying h1 w, h1, h2⟩
theorem lcut_den {l r : List V} {o n : Nat} (h : lcut l o n = some r) : (V.denL E r).length = n ∧ ∀ (j : Nat) v, (V.denL E r)[j]? = some v → (V.denL E l)[o + j]? = some v := by
  obtain ⟨h1, h2, h3⟩ := lcut_some l o n r h
  refine ⟨by rw [denL_len, h1], fun j v hv => ?_⟩
  rw [denL_get] at hv ⊢
  have hj : j < n := by
    rw [← h1]
    cases e : r[j]? with
    | none => rw [e] at hv; cases hv
    | some q => exact (List.getElem?_eq_some_iff.1 e).1
  rw [← h3 j hj]
  exact hv
theorem lcut_wf {n zn : Nat} {l r : List V} {o k : Nat} (h : lcut l o k = some r) (hw : V.wfL n zn l) : V.wfL n zn r := wfL_iff.2 fun v hv => by
  obtain ⟨j, hj⟩ := List.getElem?_of_mem hv
  obtain ⟨h1, h2, h3⟩ := lcut_some l o k r h
  have hjk : j < k := by rw [← h1]; exact (List.getElem?_eq_some_iff.1 hj).1
  rw [h3 j hjk] at hj
  exact wfL_iff.1 hw v (List.mem_of_getElem? hj)
theorem lget_wf {n zn : Nat} {l : List V} {k : Nat} (h : lget l k = some r) (hw : V.wfL n zn l) : r.wf n zn := by
  rw [lget_eq] at h
  exact wfL_iff.1 hw r (List.mem_of_getElem? h)
theorem lget_den {l : List V} {k : Nat} (h : lget l k = some r) : (V.denL E l)[k]? = some (r.den E) := by
  rw [lget_eq] at h
  rw [denL_get, h]
  rfl
/-- A part of a row of cells. -/
def loadV (i : TJ) (c : List V) (o : Nat) : Option V := if isAgg' i.k then (match lcut c o i.n with | some l => some (.g l) | none => none) else lget c o
theorem loadV_wf {n zn : Nat} {i : TJ} {c : List V} {o : Nat} (h : loadV i c o = some r) (hw : V.wfL n zn c) : r.wf n zn := by
  unfold loadV at h
  split at h
  · split at h
    · rename_i l hl
      cases h
      simpa only [V.wf] using lcut_wf hl hw
    · cases h
  · exact lget_wf h hw
theorem part_ok {t : TypeId} {i : TJ} (hi : TyOk P t i) {l : List V} {k : Nat} (h : loadV i l k = some r) : (part t (V.denL E l).toArray k).run P w = .ok (r.den E) w := by
  unfold part
  rw [Sem.run_bind, hi.agg, Result.andThen_ok]
  unfold loadV at h
  split at h
  · rename_i ha
    rw [if_pos ha]
    split at h
    · rename_i q hq
      cases h
      obtain ⟨h1, h2⟩ := lcut_den (E := E) hq
      rw [Sem.run_bind, hi.sizeOf, Result.andThen_ok]
      simp only [Sem.run_pure, V.den]
      congr 2
      refine Array.ext_getElem? fun j => ?_
      rw [Array.getElem?_extract, List.getElem?_toArray, List.getElem?_toArray]
      have hc := lcut_some _ _ _ _ hq
      have hl : (V.denL E l).length = l.length := denL_len E l
      split
      · rename_i hj
        cases e : (V.denL E q)[j]? with
        | some v => exact h2 j v e
        | none =>
          have := List.getElem?_eq_none_iff.1 e
          simp at hj
          omega
      · rename_i hj
        symm
        rw [List.getElem?_eq_none_iff]
        simp at hj
        omega
    · cases h
  · rename_i ha
    rw [if_neg ha, List.getElem?_toArray, lget_den h]
    rfl
theorem load_ok {t : TypeId} {i : TJ} (hi : TyOk P t i) {c : List V} {b o : Nat} (hc : ∀ (j : Nat) v, (j = o ∨ (o ≤ j ∧ j < o + i.n)) → (V.denL E c)[j]? = some v → w.cell? (E.at b j) = some v) (h : loadV i c o = some r) : (loadVar t (E.at b o)).run P w = .ok (r.den E) w := by
  unfold loadV at h
  split at h
  · rename_i ha
    split at h
    · rename_i q hq
      cases h
      obtain ⟨h1, h2⟩ := lcut_den (E := E) hq
      obtain ⟨d, u1, u2⟩ := hi.und
      obtain ⟨qi, hq1, hq2, _⟩ := hi.info
      have := run_loadVar_mid (P := P) w (E.B b).1 ((E.B b).2 + o) t (V.denL E q) d (fun j v hv => by
        have := hc _ _ (.inr ⟨Nat.le_add_right _ _, by have := (List.getElem?_eq_some_iff.1 hv).1; omega⟩) (h2 j v hv)
        simp only [En.at] at this
        rwa [← Nat.add_assoc] at this) u1 (by rw [kOk_row u2, ha]) (by rw [hq1, Option.map_some, hq2, h1])
      simpa only [V.den, En.at] using this
    · cases h
  · rename_i ha
    unfold loadVar
    rw [Sem.run_bind, hi.agg, Result.andThen_ok, if_neg ha, run_load, hc _ _ (.inl rfl) (lget_den h)]
theorem lput_den {c l : List V} {o : Nat} (h : o + l.length ≤ c.length) : V.denL E (lput c o l) = lput (V.denL E c) o (V.denL E l) := by
  rw [lput_eq _ _ _ h, lput_eq _ _ _ (by rw [denL_len, denL_len]; exact h)]
  simp only [denL_eq, List.map_append, List.map_take, List.map_drop, List.length_map]
theorem lput_wf {n zn : Nat} {c l : List V} {o : Nat} (h : o + l.length ≤ c.length) (h1 : V.wfL n zn c) (h2 : V.wfL n zn l) : V.wfL n zn (lput c o l) := wfL_iff.2 fun v hv => by
  rw [lput_eq _ _ _ h] at hv
  rcases List.mem_append.1 hv with hv | hv
  · rcases List.mem_append.1 hv with hv | hv
    · exact wfL_iff.1 h1 v (List.mem_of_mem_take hv)
    · exact wfL_iff.1 h2 v hv
  · exact wfL_iff.1 h1 v (List.mem_of_mem_drop hv)
theorem lput_cons {c : List Value} {o : Nat} {x : Value} {l : List Value} (h : o + (l.length + 1) ≤ c.length) : lput c o (x :: l) = lput (c.set o x) (o + 1) l := by
  rw [lput_eq _ _ _ (by simpa using h), lput_eq _ _ _ (by rw [List.length_set]; omega), List.take_add_one, List.take_set_of_le (Nat.le_refl o), List.getElem?_set_self (by omega)]
  simp only [Option.toList_some, List.append_assoc, List.singleton_append, List.length_cons]
  congr 2
  rw [List.drop_set_of_lt (by omega), show o + 1 + l.length = o + (l.length + 1) by omega]
theorem foldl_put (o : Nat) : ∀ (l : List Value) (k : Nat) (c : List Value), o + k + l.length ≤ c.length → (l.zipIdx k).foldl (fun cs (p : Value × Nat) => cs.setIfInBounds (o + p.2) p.1) c.toArray = (lput c (o + k) l).toArray
  | [], k, c, h => by rw [lput_eq _ _ _ (by simpa using h)]; simp
  | x :: l, k, c, h => by
    simp only [List.length_cons] at h
    rw [List.zipIdx_cons, List.foldl_cons, List.setIfInBounds_toArray, foldl_put o l (k + 1) _ (by rw [List.length_set]; omega), lput_cons (by omega)]
    rw [Nat.add_assoc]
/-- Parts are laid into a row of cells. -/
def fillV (place : Nat → Option (Nat × Nat)) (ev : Operand → V) : List V → List (Nat × Operand) → Option (List V)
  | c, [] => some c
  | c, (j, x) :: r => match place j with
    | some (o, n) => match (ev x).cs with
      | some l => if l.length == n && Nat.ble (o + l.length) c.length then fillV place ev (lput c o l) r else none
      | none => none
    | none => none
variable {ev : Operand → V} {ρ : Operand → Value}
theorem fillV_ok (hr : ∀ x, ρ x = (ev x).den E) {pl : Nat → Option (Nat × Nat)} : ∀ (l : List (Nat × Operand)) (c q : List V), fillV pl ev c l = some q → Instr.fill pl (V.denL E c).toArray (l.map fun p => (p.1, ρ p.2)) = some (V.denL E q).toArray
  | [], c, q, h => by cases h; rfl
  | (j, x) :: l, c, q, h => by
    rw [fillV] at h
    split at h
    · rename_i o n hn
      split at h
      · rename_i m hm
        split at h
        · rename_i hc
          simp only [Bool.and_eq_true, beq_iff_eq, Nat.ble_eq] at hc
          have ih := fillV_ok hr l _ _ h
          rw [List.map_cons, Instr.fill]
          have hcs := (V.cs_den E hm).1
          have hl := denL_len E m
          have hlc := denL_len E c
          simp only [hn, hr, hcs]
          rw [if_neg (by simp only [List.size_toArray, hl, hlc, hc.1, Bool.or_eq_true, decide_eq_true_eq, ne_eq, not_true_eq_false, false_or]; omega)]
          rw [lput_den hc.2] at ih
          have := foldl_put o (V.denL E m) 0 (V.denL E c) (by omega)
          simp only [hr] at ih
          rw [← Array.foldl_toList, Array.toList_zipIdx]
          simp only [Nat.add_zero] at this
          rw [← ih, ← this]
        · cases h
      · cases h
    · cases h
theorem fillV_wf {n zn : Nat} (hw : ∀ x, (ev x).wf n zn) {pl : Nat → Option (Nat × Nat)} : ∀ (l : List (Nat × Operand)) (c q : List V), fillV pl ev c l = some q → V.wfL n zn c → V.wfL n zn q
  | [], c, q, h, hc => by cases h; exact hc
  | (j, x) :: l, c, q, h, hc => by
    rw [fillV] at h
    split at h
    · split at h
      · rename_i m hm
        split at h
        · rename_i hb
          simp only [Bool.and_eq_true, beq_iff_eq, Nat.ble_eq] at hb
          exact fillV_wf hw l _ _ h (lput_wf hb.2 hc (V.cs_wf hm (hw x)))
        · cases h
      · cases h
    · cases h
end
end Go.Proofs.Rn
