/- A call's own boxes, what stands beside them, and the steps of a walk over them; no conditions. -/
import Derived.Test.YtcdlhokeednjfaaGreatKit
import Derived.Test.YtcdlhokeednjfaaGreatPlan
namespace Go.Proofs.Own
open Go Go.RowKit

/-- R stands, and goes on standing while blocks of S are changed (and new ones are made). -/
def Sf (S : Nat → Prop) (w : World) (R : World → Prop) : Prop := ∀ w', Kept w w' S → R w'
section
variable {S T : Nat → Prop} {w w' : World} {R Z : World → Prop}
theorem Sf.now (h : Sf S w R) : R w := h w (Kept.refl w S)
theorem Sf.to (h : Sf S w R) (k : Kept w w' S) : Sf S w' R := fun v kv => h v (k.trans kv)
theorem Sf.below (h : Sf S w R) (k : Below w.heap.size w w') : Sf S w' R := h.to (Kept.of_below k fun i h1 h2 => by omega)
theorem Sf.sub (h : Sf S w R) (hs : ∀ k, k < w.heap.size → T k → S k) : Sf T w R := fun v kv => h v (kv.mono hs)
theorem Sf.imp (h : Sf S w R) (hi : ∀ v, R v → Z v) : Sf S w Z := fun v kv => hi v (h v kv)
theorem Sf.and (h : Sf S w R) (g : Sf S w Z) : Sf S w (fun v => R v ∧ Z v) := fun v kv => ⟨h v kv, g v kv⟩
theorem Sf.all (S : Nat → Prop) (w : World) : Sf S w (fun _ => True) := fun _ _ => trivial
end

/-- Boxes: blocks, and their cells. -/
abbrev Bx := List (Nat × List Value)
def Box (w : World) (p : Nat × List Value) : Prop := p.1 < w.heap.size ∧ ∀ (j : Nat) v, p.2[j]? = some v → w.cell? ⟨p.1, j, none⟩ = some v ∧ w.frozen? ⟨p.1, j, none⟩ = false
theorem Box.lt {w : World} {p : Nat × List Value} (h : Box w p) : p.1 < w.heap.size := h.1
theorem Box.kept {w w' : World} {p : Nat × List Value} {S : Nat → Prop} (h : Box w p) (hk : Kept w w' S) (hs : ¬ S p.1) : Box w' p :=
  ⟨Nat.lt_of_lt_of_le h.1 hk.size, fun j v hj => ⟨hk.cell (h.2 j v hj).1 hs, (hk.frozen (a := ⟨p.1, j, none⟩) h.1 hs).trans (h.2 j v hj).2⟩⟩
theorem Box.new {w : World} {c : List Value} {t : TypeId} : Box (w.alloc (.cells c.toArray t)) (w.heap.size, c) := by
  refine ⟨by simp, fun j v hj => ⟨?_, ?_⟩⟩
  · rw [World.cell?_alloc_new]
    simpa using hj
  · show World.frozen? (w.alloc _) ⟨w.heap.size, j, none⟩ = false
    unfold World.frozen? World.alloc
    simp
theorem Box.set {w : World} {b : Nat} {c : List Value} (h : Box w (b, c)) (j : Nat) (v : Value) : Box (w.setCell ⟨b, j, none⟩ v) (b, c.set j v) := by
  refine ⟨by rw [World.size_setCell]; exact h.1, fun i u hi => ?_⟩
  rw [World.frozen?_setCell]
  simp only at hi ⊢
  rw [List.getElem?_set] at hi
  split at hi
  · rename_i e
    subst e
    split at hi
    · rename_i hl
      have h1 := h.2 j _ (List.getElem?_eq_getElem hl)
      exact ⟨(World.cell?_setCell_same _ _ _ h1.1).trans hi, h1.2⟩
    · cases hi
  · rename_i e
    exact ⟨(World.cell?_setCell_other _ _ _ _ (by simp)).trans (h.2 i u hi).1, (h.2 i u hi).2⟩
/-- The blocks that may be changed: S, and the boxes. -/
def ow (S : Nat → Prop) (l : List Nat) : Nat → Prop := fun k => S k ∨ k ∈ l

/-- The call began at w0; its boxes are L; R stands beside them, whatever is done to the boxes and to S. -/
structure Fr (S : Nat → Prop) (w0 w : World) (L : Bx) (R : World → Prop) : Prop where
  box : ∀ (i : Nat) p, L[i]? = some p → Box w p
  inj : ∀ (i j : Nat) p q, L[i]? = some p → L[j]? = some q → p.1 = q.1 → i = j
  rng : ∀ p ∈ L, w0.heap.size ≤ p.1 ∧ p.1 < w.heap.size
  bel : Below w0.heap.size w0 w
  saf : Sf (ow S (L.map (·.1))) w R
  lim : ∀ k, S k → k < w.heap.size
section
variable {S : Nat → Prop} {w0 w w' : World} {L : Bx} {R Z : World → Prop}
theorem Fr.zero (w : World) (hS : ∀ k, S k → k < w.heap.size) (h : Sf S w R) : Fr S w w [] R :=
  ⟨fun i p h => (by simp at h), fun i j p q h => (by simp at h), nofun, Below.refl _ _, h.sub fun k _ hk => hk.elim id fun h => (by cases h), hS⟩
theorem Fr.r (h : Fr S w0 w L R) : R w := h.saf.now
theorem Fr.get (h : Fr S w0 w L R) (hi : ∀ v, R v → Z v) : Sf (ow S (L.map (·.1))) w Z := h.saf.imp hi
theorem Fr.few (h : Fr S w0 w L R) : ∀ k, ow S (L.map (·.1)) k → k < w.heap.size := fun k hk => hk.elim (h.lim k) fun h1 => by
  obtain ⟨p, hp, rfl⟩ := List.mem_map.1 h1
  exact (h.rng p hp).2
/-- A call beside the frame. -/
theorem Fr.call (h : Fr S w0 w L R) (hb : Below w.heap.size w w') : Fr S w0 w' L R := by
  have hz : w0.heap.size ≤ w.heap.size := h.bel.size
  refine ⟨fun i p hp => ?_, h.inj, fun p hp => ⟨(h.rng p hp).1, Nat.lt_of_lt_of_le (h.rng p hp).2 hb.size⟩, h.bel.trans (hb.mono hz), h.saf.below hb, fun k hk => Nat.lt_of_lt_of_le (h.lim k hk) hb.size⟩
  exact (h.box i p hp).kept (Kept.of_below hb (S := fun _ => False) fun k h1 h2 => by omega) id
/-- .. that tells of something new. -/
theorem Fr.put (h : Fr S w0 w L R) (g : Sf (ow S (L.map (·.1))) w Z) : Fr S w0 w L (fun v => Z v ∧ R v) := ⟨h.box, h.inj, h.rng, h.bel, g.and h.saf, h.lim⟩
theorem Fr.imp (h : Fr S w0 w L R) (hi : ∀ v, R v → Z v) : Fr S w0 w L Z := ⟨h.box, h.inj, h.rng, h.bel, h.saf.imp hi, h.lim⟩
theorem Fr.drew (h : Fr S w0 w L R) (e : w.drew = w') : Fr S w0 w' L R := e ▸ h.call ((Below.refl _ _).drew)
theorem Fr.grow (h : Fr S w0 w L R) {o : Obj} (e : w.alloc o = w') : Fr S w0 w' L R := e ▸ h.call ((Below.refl _ _).alloc (Nat.le_refl _) _)
/-- A new box. -/
theorem Fr.snoc (h : Fr S w0 w L R) {b : Nat} {c : List Value} {t : TypeId} (hb : w.heap.size = b) (e : w.alloc (.cells c.toArray t) = w') : Fr S w0 w' (L ++ [(b, c)]) R := by
  subst hb
  have h1 := h.grow e
  have key : ∀ (i : Nat) p, (L ++ [(w.heap.size, c)])[i]? = some p → (L[i]? = some p ∧ p.1 < w.heap.size) ∨ (i = L.length ∧ p = (w.heap.size, c)) := by
    intro i p hp
    rw [List.getElem?_append] at hp
    split at hp
    · exact .inl ⟨hp, (h.rng p (List.mem_of_getElem? hp)).2⟩
    · rename_i hi
      rw [List.getElem?_singleton] at hp
      split at hp
      · exact .inr ⟨by omega, (Option.some.inj hp).symm⟩
      · cases hp
  refine ⟨fun i p hp => ?_, fun i j p q hp hq hpq => ?_, fun p hp => ?_, h1.bel, ?_, h1.lim⟩
  · rcases key i p hp with ⟨hp, _⟩ | ⟨_, rfl⟩
    · exact h1.box i p hp
    · exact e ▸ Box.new
  · rcases key i p hp with ⟨hp, lp⟩ | ⟨rfl, rfl⟩ <;> rcases key j q hq with ⟨hq, lq⟩ | ⟨rfl, rfl⟩
    · exact h.inj i j p q hp hq hpq
    · simp only at hpq; omega
    · simp only at hpq; omega
    · rfl
  · rcases List.mem_append.1 hp with hp | hp
    · exact h1.rng p hp
    · obtain rfl := List.mem_singleton.1 hp
      exact ⟨h.bel.size, by subst e; simp⟩
  · intro v kv
    have k1 : Kept w v (ow S (L.map (·.1))) := by
      subst e
      refine ((Kept.alloc w _ (fun k => ow S ((L ++ [(w.heap.size, c)]).map (·.1)) k)).trans kv).mono fun k hk hs => ?_
      rcases hs with hs | hs
      · exact .inl hs
      · rw [List.map_append] at hs
        rcases List.mem_append.1 hs with hs | hs
        · exact .inr hs
        · simp only [List.map_cons, List.map_nil, List.mem_singleton] at hs
          omega
    exact h.saf v k1
/-- A box is changed. -/
theorem Fr.turn (h : Fr S w0 w L R) (i : Nat) {b : Nat} {c d : List Value} (hi : L[i]? = some (b, c)) (hk : Kept w w' (fun k => k = b)) (hd : Box w' (b, d)) : Fr S w0 w' (L.set i (b, d)) R := by
  have hl : i < L.length := (List.getElem?_eq_some_iff.1 hi).1
  have key : ∀ (k : Nat) p, (L.set i (b, d))[k]? = some p → (k = i ∧ p = (b, d)) ∨ (k ≠ i ∧ L[k]? = some p) := by
    intro k p hp
    rw [List.getElem?_set] at hp
    split at hp
    · rename_i hk
      exact .inl ⟨hk.symm, (Option.some.inj hp).symm⟩
    · rename_i hk
      exact .inr ⟨fun h => hk h.symm, hp⟩
  have hfst : (L.set i (b, d)).map (·.1) = L.map (·.1) := by
    rw [List.map_set]
    refine List.ext_getElem? fun k => ?_
    rw [List.getElem?_set]
    split
    · rename_i hk
      subst hk
      rw [List.getElem?_map, hi]
      simp [hl]
    · rfl
  have hb : (b, c) ∈ L := List.mem_of_getElem? hi
  refine ⟨fun k p hp => ?_, fun k l p q hp hq hpq => ?_, fun p hp => ?_, hk.below (Nat.le_trans (h.rng _ hb).1 (Nat.le_of_lt (h.rng _ hb).2)) (fun k hk => hk ▸ (h.rng _ hb).1) |> h.bel.trans, ?_, fun k hs => Nat.lt_of_lt_of_le (h.lim k hs) hk.size⟩
  · rcases key k p hp with ⟨rfl, rfl⟩ | ⟨hne, hp⟩
    · exact hd
    · exact (h.box k p hp).kept hk fun he => hne (h.inj k i p _ hp hi he)
  · rcases key k p hp with ⟨rfl, rfl⟩ | ⟨_, hp'⟩ <;> rcases key l q hq with ⟨rfl, rfl⟩ | ⟨_, hq'⟩
    · rfl
    · exact h.inj _ l _ q hi hq' hpq
    · exact h.inj k _ p _ hp' hi hpq
    · exact h.inj k l p q hp' hq' hpq
  · obtain ⟨k, hk2⟩ := List.getElem?_of_mem hp
    rcases key k p hk2 with ⟨rfl, rfl⟩ | ⟨_, hp⟩
    · exact ⟨(h.rng _ hb).1, Nat.lt_of_lt_of_le (h.rng _ hb).2 hk.size⟩
    · exact ⟨(h.rng p (List.mem_of_getElem? hp)).1, Nat.lt_of_lt_of_le (h.rng p (List.mem_of_getElem? hp)).2 hk.size⟩
  · rw [hfst]
    exact h.saf.to (hk.mono fun k _ hk => .inr (hk ▸ List.mem_map.2 ⟨_, hb, rfl⟩))
/-- A store into a box. -/
theorem Fr.u (h : Fr S w0 w L R) (i : Nat) {b : Nat} {c : List Value} {j : Nat} {v : Value} (hi : L[i]? = some (b, c)) (e : w.setCell ⟨b, j, none⟩ v = w') : Fr S w0 w' (L.set i (b, c.set j v)) R :=
  h.turn i hi (e ▸ Kept.setCell w ⟨b, j, none⟩ v) (e ▸ (h.box _ _ hi).set j v)
/-- What a call is handed: it stands, also while blocks of S change, all of them old. -/
structure In (S : Nat → Prop) (w : World) (R : World → Prop) : Prop where
  lim : ∀ k, S k → k < w.heap.size
  saf : Sf S w R
theorem In.fr (h : In S w R) : Fr S w w [] R := Fr.zero w h.lim h.saf
theorem Fr.ins (h : Fr S w0 w L R) (hi : ∀ v, R v → Z v) : In (ow S (L.map (·.1))) w Z := ⟨h.few, h.get hi⟩
/-- A call beside the frame, that tells of something new. -/
theorem Fr.next (h : Fr S w0 w L R) (hb : Below w.heap.size w w') (g : Sf (ow S (L.map (·.1))) w' Z) : Fr S w0 w' L (fun v => Z v ∧ R v) := (h.call hb).put g
/-- What a call leaves of what stands. -/
theorem Fr.fin (h : Fr S w0 w L R) (hi : ∀ v, R v → Z v) : Sf S w Z := (h.saf.sub fun _ _ hk => .inl hk).imp hi
end

-- ALL CELLS, ONE BY ONE
def CellsF (w : World) (b : Nat) : Nat → List Value → Prop
  | _, [] => True
  | j, v :: r => w.cell? ⟨b, j, none⟩ = some v ∧ w.frozen? ⟨b, j, none⟩ = false ∧ CellsF w b (j + 1) r
def FactsF (w : World) : Bx → Prop
  | [] => True
  | p :: r => p.1 < w.heap.size ∧ CellsF w p.1 0 p.2 ∧ FactsF w r
theorem cellsF_of {w : World} {b : Nat} : ∀ (r : List Value) (j : Nat), (∀ (i : Nat) v, r[i]? = some v → w.cell? ⟨b, j + i, none⟩ = some v ∧ w.frozen? ⟨b, j + i, none⟩ = false) → CellsF w b j r
  | [], _, _ => trivial
  | v :: r, j, hr => by
    have h0 := hr 0 v rfl
    refine ⟨h0.1, h0.2, cellsF_of r (j + 1) fun i u hu => ?_⟩
    have := hr (i + 1) u (by simpa using hu)
    rwa [show j + (i + 1) = j + 1 + i by omega] at this
theorem factsF_of {w : World} : ∀ {L : Bx}, (∀ p ∈ L, Box w p) → FactsF w L
  | [], _ => trivial
  | p :: r, h => ⟨(h p List.mem_cons_self).1, cellsF_of p.2 0 fun i v hv => by rw [Nat.zero_add]; exact (h p List.mem_cons_self).2 i v hv, factsF_of fun q hq => h q (List.mem_cons_of_mem _ hq)⟩
theorem Fr.facts {S : Nat → Prop} {w0 w : World} {L : Bx} {R : World → Prop} (h : Fr S w0 w L R) : FactsF w L := factsF_of fun p hp => let ⟨i, hi⟩ := List.getElem?_of_mem hp; h.box i p hi
theorem fO {w : World} : FactsF w [] = True ∧ (∀ b c r, FactsF w ((b, c) :: r) = (b < w.heap.size ∧ CellsF w b 0 c ∧ FactsF w r)) ∧ (∀ b j, CellsF w b j [] = True) ∧ (∀ b j v r, CellsF w b j (v :: r) = (w.cell? ⟨b, j, none⟩ = some v ∧ w.frozen? ⟨b, j, none⟩ = false ∧ CellsF w b (j + 1) r)) :=
  ⟨rfl, fun _ _ _ => rfl, fun _ _ => rfl, fun _ _ _ _ => rfl⟩
theorem fS {α : Type} : (∀ (a b : α) l, (a :: l).set 0 b = b :: l) ∧ (∀ (a b : α) l i, (a :: l).set (i + 1) b = a :: l.set i b) ∧ (∀ l : List α, [] ++ l = l) ∧ ∀ (a : α) l m, (a :: l) ++ m = a :: (l ++ m) := ⟨fun _ _ _ => rfl, fun _ _ _ _ => rfl, fun _ => rfl, fun _ _ _ => rfl⟩

-- A REGION THAT DRAWS ITS ORDER, ITS WHOLE PLAN AT ONCE
/-- A stage: heads, or one operation. -/
inductive Stg where
  | h (H : List Nat)
  | o (j : Nat)
def planB (l : List Oper) (M : List Nat) (J : Nat) : List Stg → Array Bool → Bool
  | [], L => (Region.ready .any l.toArray L).isEmpty
  | .h H :: r, L => stageB l.toArray M J L H && planB l M J r (H.foldl (fun b i => b.setIfInBounds i true) L)
  | .o j :: r, L => (Region.ready .any l.toArray L == [j]) && planB l M J r (L.setIfInBounds j true)
def planN : List Stg → Nat
  | [] => 0
  | .h H :: r => planN r + H.length
  | .o _ :: r => planN r + 1
def planPost (J : Nat) (S : World → Prop) (Q : Exit → Act → World → Prop) (j : Nat) (K : Act → World → Prop) : Exit → Act → World → Prop
  | .normal, a, w => (J.testBit j = true → S w) ∧ K a w
  | e, a, w => Q e a w
def wpPlan (P : Program) (l : List Oper) (J : Nat) (S : World → Prop) (Q : Exit → Act → World → Prop) : List Stg → Act → World → Prop
  | [], a, w => Q .normal a w
  | .h H :: r, a, w => ((H.all fun i => match l.toArray[i]? with | some o => !needy J i o | none => true) = true ∨ S w) ∧ wpHeads P l.toArray S (fun A => wpPlan P l J S Q r A w) (H.flatMap fun i => (l.drop i).take 1) a
  | .o j :: r, a, w => wpList P l.toArray (planPost J S Q j (wpPlan P l J S Q r)) ((l.drop j).take 1) a w
section
variable {P : Program} {l : List Oper} {J : Nat} {S : World → Prop} {Q : Exit → Act → World → Prop} {M : List Nat} {a : Act} {w : World}
theorem plan_post {j : Nat} {K : Act → World → Prop} (hS : J.testBit j = true → S w) (h : K a w) : planPost J S Q j K .normal a w := ⟨hS, h⟩
theorem plan_h {H : List Nat} {r : List Stg} (h1 : (H.all fun i => match l.toArray[i]? with | some o => !needy J i o | none => true) = true ∨ S w)
    (h : wpHeads P l.toArray S (fun A => wpPlan P l J S Q r A w) (H.flatMap fun i => (l.drop i).take 1) a) : wpPlan P l J S Q (.h H :: r) a w := ⟨h1, h⟩
theorem plan_o {j : Nat} {r : List Stg} (h : wpList P l.toArray (planPost J S Q j (wpPlan P l J S Q r)) ((l.drop j).take 1) a w) : wpPlan P l J S Q (.o j :: r) a w := h
theorem Oper.wp_monoQ {o : Oper} {Q Q' : Exit → Act → World → Prop} {K K' : Act → World → Prop} (h : ∀ a w, K a w → K' a w) (hp : ∀ c a w, Q (.panic c) a w → Q' (.panic c) a w) (hl : LetsOut Q → LetsOut Q') (hh : o.wp P a w K Q) : o.wp P a w K' Q' := by
  unfold Oper.wp at *
  generalize (execOp a.eval o).run P w = r at *
  cases r with
  | ok n w' =>
    cases n <;> simp only [Oper.upon] at hh ⊢ <;>
      first
        | exact h _ _ hh
        | exact Calls.mono hh (fun e w'' he => by cases e <;> first | exact h _ _ he | exact hp _ _ _ he | exact hl he)
        | exact Rows.mono hh (fun _ _ he => h _ _ he)
  | halt x w' => cases x <;> simp only [Oper.upon] at hh ⊢ <;> exact hp _ _ _ hh
theorem plan_nil (h : Q .normal a w) : wpPlan P l J S Q [] a w := h
theorem rest_of_plan (h0 : (Region.noSelect l.toArray && maskOk l.toArray M) = true) (hQ : ∀ c (a : Act) t w, Q (.panic c) { a with tmps := t } w → Q (.panic c) a w) (hSa : ∀ w o, S w → S (w.alloc o)) :
    ∀ (st : List Stg) (L : Array Bool) (a : Act) (w : World), planB l M J st L = true → wpPlan P l J S Q st a w → Rest P l.toArray M J S Q (planN st) L a w
  | [], L, a, w, hB, h => stage_done (by simpa [planB] using hB) h
  | .h H :: r, L, a, w, hB, h => by
    simp only [planB, Bool.and_eq_true] at hB h0
    refine stage_heads H (by simp only [Bool.and_eq_true]; exact ⟨h0, hB.1⟩) rfl rfl hQ hSa h.1 ?_
    have : (fun A => wpPlan P l J S Q r A w) = (fun A => wpPlan P l J S Q r A w) := rfl
    have key : ∀ (os : List Oper) (K K' : Act → Prop), (∀ A, K A → K' A) → ∀ a, wpHeads P l.toArray S K os a → wpHeads P l.toArray S K' os a := by
      intro os K K' hK
      induction os with
      | nil => intro a h; exact hK a h
      | cons o os ih => intro a h; obtain ⟨v, h1, h2⟩ := h; exact ⟨v, h1, ih _ h2⟩
    exact key _ _ _ (fun A hA => rest_of_plan (by simp only [Bool.and_eq_true]; exact h0) hQ hSa r _ A w hB.2 hA) a h.2
  | .o j :: r, L, a, w, hB, h => by
    simp only [planB, Bool.and_eq_true, beq_iff_eq] at hB
    refine stage_op j hB.1 rfl ?_
    have hm : ∀ e a' w', planPost J S Q j (wpPlan P l J S Q r) e a' w' → stepPost P l.toArray M J S Q (planN r) (L.setIfInBounds j true) j e a' w' := by
      intro e a' w' h
      cases e
      case normal => exact ⟨h.1, rest_of_plan h0 hQ hSa r _ a' w' hB.2 h.2⟩
      all_goals exact h
    obtain ⟨o, _, hp⟩ := pick_one (l := l) (i := j) (listed := L) (by rw [hB.1]; exact List.mem_singleton.2 rfl)
    unfold wpPlan at h
    rw [hp] at h ⊢
    unfold wpList at h ⊢
    split
    · rename_i hw
      rw [if_pos hw] at h
      have hl : LetsOut (planPost J S Q j (wpPlan P l J S Q r)) → LetsOut (stepPost P l.toArray M J S Q (planN r) (L.setIfInBounds j true) j) := fun ⟨a', w', h⟩ => ⟨a', w', hm _ _ _ h⟩
      exact h.imp (Oper.wp_monoQ (fun a' w' h2 => hm .normal a' w' h2) (fun c a' w' h2 => hm (.panic c) a' w' h2) hl) fun h1 => ⟨h1.1, hl h1.2⟩
    · rename_i hw
      rw [if_neg hw] at h
      exact hm .normal _ _ h
/-- A REGION BY ITS PLAN. -/
theorem region_plan {id : Nat} (M : List Nat) (J : Nat) (st : List Stg) (S : World → Prop) (hm : P.follows .mixedOrders = true) (h0 : (Region.noSelect l.toArray && maskOk l.toArray M && planB l M J st (Array.replicate l.length false) && decide (planN st = l.length)) = true)
    (hQ : ∀ c (a : Act) t w, Q (.panic c) { a with tmps := t } w → Q (.panic c) a w) (hSa : ∀ w o, S w → S (w.alloc o)) (h : wpPlan P l J S Q st a w.drew) : (Code.region id l.toArray true).wp P Q a w := by
  simp only [Bool.and_eq_true, decide_eq_true_eq] at h0
  refine region_start M J S hm ?_
  have := rest_of_plan (by simp only [Bool.and_eq_true]; exact h0.1.1) hQ hSa st _ a w.drew h0.1.2 h
  rwa [h0.2] at this
end
-- A REGION BESIDE A FRAME
/-- The boxes that no operation of the region stores to. -/
def msk : List Bool → Bx → Bx
  | _, [] => []
  | [], p :: L => p :: msk [] L
  | true :: m, _ :: L => msk m L
  | false :: m, p :: L => p :: msk m L
theorem mK : (∀ m, msk m [] = []) ∧ (∀ p L, msk [] (p :: L) = p :: msk [] L) ∧ (∀ m p L, msk (true :: m) (p :: L) = msk m L) ∧ (∀ m p L, msk (false :: m) (p :: L) = p :: msk m L) := ⟨fun m => by cases m <;> rfl, fun _ _ => rfl, fun _ _ _ => rfl, fun _ _ _ => rfl⟩
theorem msk_mem : ∀ (m : List Bool) (L : Bx), ∀ p ∈ msk m L, p ∈ L
  | [], [], p, h => by simp [msk] at h
  | _ :: _, [], p, h => by simp [msk] at h
  | [], q :: L, p, h => by
    rcases List.mem_cons.1 h with rfl | h
    · exact List.mem_cons_self
    · exact List.mem_cons_of_mem _ (msk_mem [] L p h)
  | true :: m, q :: L, p, h => List.mem_cons_of_mem _ (msk_mem m L p h)
  | false :: m, q :: L, p, h => by
    rcases List.mem_cons.1 h with rfl | h
    · exact List.mem_cons_self
    · exact List.mem_cons_of_mem _ (msk_mem m L p h)
structure Rg (S : Nat → Prop) (m : List Bool) (L : Bx) (R : World → Prop) (w : World) : Prop where
  box : ∀ p ∈ msk m L, Box w p
  saf : Sf (ow S (L.map (·.1))) w R
theorem Fr.rg {S : Nat → Prop} {w0 w : World} {L L' : Bx} {R : World → Prop} {m : List Bool} (h : Fr S w0 w L' R) (h1 : msk m L' = msk m L := by rfl) (h2 : L'.map (·.1) = L.map (·.1) := by rfl) : Rg S m L R w :=
  ⟨fun p hp => by
    rw [← h1] at hp
    obtain ⟨i, hi⟩ := List.getElem?_of_mem (msk_mem m L' p hp)
    exact h.box i p hi, by rw [← h2]; exact h.saf⟩
/-- What is told of a region: its masks, the operations behind which all is shown anew, its stages, the boxes that it stores to. -/
structure Pm (M : List Nat) (J : Nat) (st : List Stg) (m : List Bool) : Prop where
theorem region_fr {P : Program} {l : List Oper} {J : Nat} {Q : Exit → Act → World → Prop} {M : List Nat} {a : Act} {id : Nat} {st : List Stg} {m : List Bool} {S : Nat → Prop} {w0 w : World} {L : Bx} {R : World → Prop} (F : Fr S w0 w L R) (_ : Pm M J st m)
    (hm : P.follows .mixedOrders = true) (h0 : (Region.noSelect l.toArray && maskOk l.toArray M && planB l M J st (Array.replicate l.length false) && decide (planN st = l.length)) = true)
    (hQ : ∀ c (a : Act) t w, Q (.panic c) { a with tmps := t } w → Q (.panic c) a w) (h : ∀ v, Fr S w0 v L R → wpPlan P l J (Rg S m L R) Q st a v) : (Code.region id l.toArray true).wp P Q a w :=
  region_plan M J st (Rg S m L R) hm h0 hQ (fun v o hv => ⟨fun p hp => (hv.box p hp).kept (Kept.alloc v o (fun _ => False)) (fun h => h), hv.saf.below ((Below.refl _ _).alloc (Nat.le_refl _) o)⟩) (h _ (F.drew rfl))
theorem Fr.region {P : Program} {l : List Oper} {J : Nat} {Q : Exit → Act → World → Prop} {M : List Nat} {a : Act} {id : Nat} {st : List Stg} {m : List Bool} {S : Nat → Prop} {w0 w : World} {L : Bx} {R : World → Prop} (F : Fr S w0 w L R) (x : Pm M J st m)
    (hm : P.follows .mixedOrders = true) (h0 : (Region.noSelect l.toArray && maskOk l.toArray M && planB l M J st (Array.replicate l.length false) && decide (planN st = l.length)) = true)
    (hQ : ∀ c (a : Act) t w, Q (.panic c) { a with tmps := t } w → Q (.panic c) a w) (h : ∀ v, Fr S w0 v L R → wpPlan P l J (Rg S m L R) Q st a v) : (Code.region id l.toArray true).wp P Q a w := region_fr F x hm h0 hQ h
theorem sX {α β : Type} : (∀ f : α → List β, List.flatMap f [] = []) ∧ ∀ (x : α) (xs : List α) (f : α → List β), List.flatMap f (x :: xs) = f x ++ List.flatMap f xs := ⟨fun _ => rfl, fun _ _ _ => rfl⟩
theorem sY {β : Type} : (∀ (a : β) (l : List β) (i : Nat), (a :: l).drop (i + 1) = l.drop i) ∧ (∀ l : List β, l.drop 0 = l) ∧ (∀ (i : Nat) (a : β) (l : List β), (a :: l).take (i + 1) = a :: l.take i) ∧ (∀ l : List β, l.take 0 = []) ∧ (∀ (a : β) (l s : List β), (a :: l) ++ s = a :: (l ++ s)) ∧ (∀ l : List β, [] ++ l = l) ∧ ∀ l : List β, l ++ [] = l := ⟨fun _ _ _ => rfl, fun _ => rfl, fun _ _ _ => rfl, fun _ => rfl, fun _ _ _ => rfl, fun _ => rfl, List.append_nil⟩
theorem sZ {α : Type} : (∀ (l : List α) (i : Nat) (a : α), l.toArray.setIfInBounds i a = (l.set i a).toArray) ∧ (∀ (a b : α) (l : List α), (a :: l).set 0 b = b :: l) ∧ ∀ (a b : α) (l : List α) (i : Nat), (a :: l).set (i + 1) b = a :: l.set i b := ⟨fun l i a => List.setIfInBounds_toArray l i a, fun _ _ _ => rfl, fun _ _ _ _ => rfl⟩
end Go.Proofs.Own
