/- A runner: the operations that change no memory tell what the model tells (slices, keys, all of them); over any program; no conditions. -/
import Derived.Test.YtcdlhokeednjfaaGreatZd
namespace Go.Proofs.Rn
open Go Go.RowKit Go.Proofs.Own

section
variable {P : Program} {tt : TypeId → Option TJ} {look lens : Nat → Option Ent} {ev : Operand → V} {ρ : Operand → Value} {E : En} {w : World} {r x y : V} {n0 n zn : Nat}
theorem bound_ok {v : V} {k m : Nat} (h : asN v = some k) (hb : k ≤ m) (code : BoundsCode) : (Instr.sliceBound (v.den E) m code).run P w = .ok k w := by
  obtain ⟨q, hq⟩ := asN_den (E := E) h
  rw [hq]
  have h1 : (0 : Int) ≤ (k : Int) ∧ (k : Int) ≤ (m : Int) := by omega
  simp [Instr.sliceBound, asIntOf, h1]
theorem bounds_ok (is : Bool) {lo hi : Option V} {len cap l h : Nat} (hl : lo.elim (some 0) asN = some l) (hh : hi.elim (some len) asN = some h) (h1 : l ≤ h) (h2 : h ≤ cap) :
    (Instr.sliceBounds is len cap (lo.map (V.den E)) (hi.map (V.den E)) none).run P w = .ok (l, h, cap) w := by
  unfold Instr.sliceBounds
  cases lo with
  | none =>
    cases hi with
    | none =>
      simp only [Option.elim_none, Option.some.injEq] at hl hh
      subst hl hh
      simp
    | some hv =>
      simp only [Option.elim_none, Option.elim_some, Option.some.injEq] at hl hh
      subst hl
      simp [bound_ok (E := E) hh h2]
  | some lv =>
    cases hi with
    | none =>
      simp only [Option.elim_none, Option.elim_some, Option.some.injEq] at hl hh
      subst hh
      simp [bound_ok (E := E) hl h1]
    | some hv =>
      simp only [Option.elim_some] at hl hh
      simp [bound_ok (E := E) hl h1, bound_ok (E := E) hh h2]
theorem bounds3_ok {lo hi : Option V} {mv : V} {len cap l h m : Nat} (hl : lo.elim (some 0) asN = some l) (hh : hi.elim (some len) asN = some h) (hi0 : hi ≠ none) (hm : asN mv = some m) (h1 : l ≤ h) (h2 : h ≤ m) (h3 : m ≤ cap) :
    (Instr.sliceBounds true len cap (lo.map (V.den E)) (hi.map (V.den E)) (some (mv.den E))).run P w = .ok (l, h, m) w := by
  unfold Instr.sliceBounds
  cases hi with
  | none => exact absurd rfl hi0
  | some hv =>
    simp only [Option.elim_some] at hh
    cases lo with
    | none =>
      simp only [Option.elim_none, Option.some.injEq] at hl
      subst hl
      simp [bound_ok (E := E) hm h3, bound_ok (E := E) hh h2]
    | some lv =>
      simp only [Option.elim_some] at hl
      simp [bound_ok (E := E) hm h3, bound_ok (E := E) hh h2, bound_ok (E := E) hl h1]
theorem at_add (i o k : Nat) : (E.at i o).add k = E.at i (o + k) := by
  unfold Addr.add En.at
  split
  · rename_i h; subst h; rfl
  · simp [Nat.add_assoc]
theorem sliceQ_ok {t e : TypeId} {es : Nat} (ht : P.underlying t = some (.slice e)) (hs : (sizeOf e).run P w = .ok es w) (hl : ∀ {i l}, lens i = some (.cells l true) → l.length ≤ E.C i) (hw : ∀ {i o es n c}, x = .q i o es n c → 0 < es)
    {lo hi mx : Option V} (h : sliceQ lens x lo hi mx es = some r) (hmx : mx = none ∨ hi ≠ none) : (Instr.sliceAt t (x.den E) (lo.map (V.den E)) (hi.map (V.den E)) (mx.map (V.den E))).run P w = .ok (r.den E) w := by
  have hcap : ∀ {i o k cl : Nat}, 0 < es → o + k * es ≤ cl → cl ≤ E.C i → k ≤ (E.C i - o) / es := fun {i o k cl} h0 h1 h2 => (Nat.le_div_iff_mul_le h0).2 (by omega)
  unfold sliceQ at h
  split at h
  · split at h
    · rename_i h1 h2 h3
      cases h
      cases mx with
      | none =>
        have q := bounds_ok (P := P) (E := E) (w := w) true (lo := lo) (hi := hi) (len := 0) (cap := 0) h1 h2 (Nat.le_refl _) (Nat.le_refl _)
        simp only [V.den, Instr.sliceAt, Instr.slice, Option.map_none, Sem.run_bind, run_underlying ht, Result.andThen_ok, q, hs]
        simp
      | some mv =>
        have q := bounds3_ok (P := P) (E := E) (w := w) (lo := lo) (hi := hi) (len := 0) (cap := 0) h1 h2 (hmx.resolve_left nofun) h3 (Nat.le_refl _) (Nat.le_refl _) (Nat.le_refl _)
        simp only [V.den, Instr.sliceAt, Instr.slice, Option.map_some, Sem.run_bind, run_underlying ht, Result.andThen_ok, q, hs]
        simp
    · cases h
  · rename_i i o es' k c
    split at h
    · rename_i he
      subst he
      have h0 := hw rfl
      split at h
      · rename_i l hh h1 h2
        split at h
        · rename_i cc
          split at h
          · rename_i hb
            cases h
            simp only [Bool.and_eq_true, Nat.ble_eq] at hb
            have q := bounds_ok (P := P) (E := E) (w := w) true (lo := lo) (hi := hi) (len := k) (cap := cc) h1 h2 hb.1 hb.2
            simp only [V.den, Instr.sliceAt, Instr.slice, Option.map_none, Sem.run_bind, run_underlying ht, Result.andThen_ok, q, hs, Sem.run_pure, Option.map_some, at_add]
            split <;> rfl
          · cases h
        · rename_i mv cc
          split at h
          · rename_i m hm
            split at h
            · rename_i hb
              cases h
              simp only [Bool.and_eq_true, Nat.ble_eq] at hb
              have q := bounds3_ok (P := P) (E := E) (w := w) (lo := lo) (hi := hi) (len := k) (cap := cc) h1 h2 (hmx.resolve_left nofun) hm hb.1.1 hb.1.2 hb.2
              simp only [V.den, Instr.sliceAt, Instr.slice, Sem.run_bind, run_underlying ht, Result.andThen_ok, Option.map_some, q, hs, Sem.run_pure, at_add]
              split <;> rfl
            · cases h
          · cases h
        · split at h
          · rename_i cl hcl
            split at h
            · rename_i hb
              simp only [Bool.and_eq_true, Nat.ble_eq] at hb
              have hle := hl hcl
              have g1 := hcap h0 hb.2 hle
              have q := bounds_ok (P := P) (E := E) (w := w) true (lo := lo) (hi := hi) (len := k) (cap := (E.C i - o) / es') h1 h2 hb.1 g1
              split at h
              · rename_i hb2
                cases h
                simp only [Nat.ble_eq] at hb2
                have g2 := hcap h0 hb2 hle
                simp only [V.den, Instr.sliceAt, Instr.slice, Option.map_none, Sem.run_bind, run_underlying ht, Result.andThen_ok, q, hs, Sem.run_pure, Option.map_some, at_add]
                rw [if_neg (by omega)]
                congr 2
                rw [Nat.sub_add_eq, Nat.mul_comm l es', Nat.sub_mul_div]
              · split at h
                · rename_i hlh
                  cases h
                  have hlh := Nat.eq_of_beq_eq_true hlh
                  subst hlh
                  simp only [V.den, Instr.sliceAt, Instr.slice, Option.map_none, Sem.run_bind, run_underlying ht, Result.andThen_ok, q, hs, Sem.run_pure, Option.map_some, at_add, Nat.sub_self]
                  split <;> rfl
                · cases h
            · cases h
          · cases h
        · split at h
          · rename_i m cl hm hcl
            split at h
            · rename_i hb
              cases h
              simp only [Bool.and_eq_true, Nat.ble_eq] at hb
              have q := bounds3_ok (P := P) (E := E) (w := w) (lo := lo) (hi := hi) (len := k) (cap := (E.C i - o) / es') h1 h2 (hmx.resolve_left nofun) hm hb.1.1 hb.1.2 (hcap h0 hb.2 (hl hcl))
              simp only [V.den, Instr.sliceAt, Instr.slice, Sem.run_bind, run_underlying ht, Result.andThen_ok, Option.map_some, q, hs, Sem.run_pure, at_add]
              split <;> rfl
            · cases h
          · cases h
      · cases h
    · cases h
  · cases h
theorem keyFind_ok {d : TypeDesc} {k : TK} (hk : kOk P d k) {es : List (V × V × Nat)} : ∀ {i : Nat} {q : Option (Nat × V)}, keyFind k x es i = some q →
    Instr.findNow d (x.den E) (es.map fun e => (⟨e.1.den E, e.2.1.den E, e.2.2⟩ : MapEntry)) i = some (q.map fun p => (p.1, p.2.den E)) := by
  induction es with
  | nil => intro i q h; cases h; rfl
  | cons e0 es ih =>
    intro i q h
    obtain ⟨a, v, b⟩ := e0
    unfold keyFind at h
    split at h
    · split at h
      · rename_i e
        subst e
        cases d <;> first | exact hk.elim | skip
        split at h
        · rename_i e
          cases h
          simp only [List.map_cons, Instr.findNow, V.den, Instr.sameNow, if_true, e, Option.map_some]
        · rename_i e
          simp only [List.map_cons, Instr.findNow, V.den, Instr.sameNow, if_true, e]
          have := ih h
          simpa only [V.den] using this
      · cases h
    · cases d <;> first | exact hk.elim | skip
      split at h
      · rename_i e
        cases h
        simp only [List.map_cons, Instr.findNow, V.den, Instr.sameNow, e, Option.map_some]
      · rename_i e
        simp only [List.map_cons, Instr.findNow, V.den, Instr.sameNow, e]
        have := ih h
        simpa only [V.den] using this
    · cases h
theorem u8L_ok : ∀ {l : List V} {q : List Nat}, u8L l = some q → V.denL E l = q.map fun n => .int .u8 (n : Int)
  | [], q, h => by cases h; simp [V.denL]
  | a :: l, q, h => by
    unfold u8L at h
    split at h
    · rename_i e; cases e
    · rename_i e
      cases e
      split at h
      · rename_i r hr
        cases h
        simp only [V.denL, u8L_ok hr, V.den, List.map_cons]
        rfl
      · cases h
    · cases h
end
end Go.Proofs.Rn
