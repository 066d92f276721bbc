/- Several texts in one: Rng, Each, Last, Disk5, Vs, Vb, Vo, Vop, Vw, Vk. What each proves stands ahead of it. -/
import Derived.Test.YtofhccpagnkalaaGreatKit
import Derived.RangeFuncNested
import Derived.RangeFuncBound
import Derived.RangeFuncCalls
import Derived.RangeFuncLeaves
import Derived.Shelf.Abstract
import Derived.Shelf.RegionOpen
import Derived.OwnWalkIn
import Derived.TacticsInMore
import Derived.LoopNIn
import Derived.LoopIn
import Derived.Test.YtofhccpagnkalaaGreatFr2
import Derived.Test.YtofhccpagnkalaaGreatRd
import Derived.Test.YtofhccpagnkalaaGreatQt
import Derived.Test.YtofhccpagnkalaaGreatGet
import Derived.Test.YtofhccpagnkalaaGreatDany
import Derived.Test.YtofhccpagnkalaaGreatRows
import Derived.Test.YtofhccpagnkalaaGreatSnd
import Derived.Test.YtofhccpagnkalaaGreatBunSv
import Derived.Test.YtofhccpagnkalaaGreatSb
/- A range over an iterator that hands on new memory: one law, over worlds that keep all but some blocks. Over any program; no conditions. -/
namespace Go.Proofs.Own
open Go Go.RowKit

/-- The two blocks that a range lays for itself at w. -/
def Rec2 (w : World) : Nat → Prop := fun k => k = w.heap.size ∨ k = w.heap.size + 1
theorem Kept.putObj (W : World) (l : Nat) (o : Obj) : Kept W (W.putObj l o) (fun k => k = l) := (Kept.of_grown (grownBy_putObj' W l o)).mono fun _ _ e => (Option.some.inj e).symm

/-- AN ITERATOR's WORD: from the state g0 on: what it hands on at the state γ meets 'ok'; behind a round that goes on it stands at 'nx γ'; it ends at a state of 'fin', or where a round has said 'no more'. S0: what the rounds may change. -/
def SeqG {Γ : Type} (n : Nat) (P : Program) (gf : Nat) (lb : Array Value) (S0 : Nat → Prop) (ok : Γ → Array Value → World → Prop) (nx : Γ → Γ) (fin : Γ → Prop) (g0 : Γ) (w : World) : Prop :=
  ∀ (l : Nat) (J : Γ → World → Prop) (Jx : World → Prop) (W : World), Below w.heap.size w W → w.heap.size ≤ l →
    (∀ γ A B, J γ A → Below A.heap.size A B → J γ B) →
    (∀ γ xs A, J γ A → ok γ xs A → YieldAt Fence.wide (n - 1) P l xs A fun e B => (e = .returned (.bool true) ∧ J (nx γ) B ∧ Kept A B (fun k => S0 k ∨ k = l)) ∨ (e = .returned (.bool false) ∧ Jx B)) →
    J g0 W → CallsIn Fence.wide n P gf (#[.func (.yield l) #[] #[]] ++ lb) W fun e B => (∃ v, e = .returned v) ∧ ((∃ γ, fin γ ∧ J γ B) ∨ Jx B)

/-- How a round's body may be left. -/
def bodyG {Γ : Type} (S0 : Nat → Prop) (I : Γ → World → Prop) (Ix : Code → World → Prop) (γ : Γ) (W : World) : Exit → Act → World → Prop
  | .normal, _, W' => Kept W W' S0 ∧ I γ W'
  | .ret, _, W' => Kept W W' S0 ∧ Ix .ret W'
  | .exit id, _, W' => Kept W W' S0 ∧ Ix (.exit id) W'
  | .goto t, _, W' => Kept W W' S0 ∧ Ix (.goto t) W'
  | .panic _, _, _ => False
  | .outgrown, _, _ => False

theorem wpIn_range {Γ : Type} {P : Program} {n : Nat} {g : Operand} {ps : Array Tmp} {assign body : Code} {Q : Exit → Act → World → Prop} {a : Act} {w : World} {gf : Nat} {lb : Array Value} (h1 : 1 ≤ n)
    (hg : a.eval g = .func (.func gf) #[] lb) (eg : ∀ args w, (callFunc gf args).run P w = .ok (.enter gf args) w) {S0 : Nat → Prop} {ok : Γ → Array Value → World → Prop} {nx : Γ → Γ} {fin : Γ → Prop} {g0 : Γ}
    (hseq : SeqG (n - 1) P gf lb S0 ok nx fin g0 w) (hS0 : ∀ k, S0 k → k < w.heap.size) (hps : ∀ γ xs W, ok γ xs W → xs.size = ps.size) (hok : ∀ γ xs A B, ok γ xs A → (∀ k, Rec2 w k → ∃ o, A.heap[k]? = some o ∧ o.isCells = false) → Kept A B (Rec2 w) → ok γ xs B)
    (I : Γ → World → Prop) (Ix : Code → World → Prop) (hI : ∀ γ A B, I γ A → Kept A B (Rec2 w) → I γ B) (hIx : ∀ c A B, Ix c A → Kept A B (Rec2 w) → Ix c B) (h0 : I g0 w) (a₁ : Array Value → Act)
    (hassign : ∀ (l : Nat) (γ : Γ) (xs : Array Value) (W : World) (K : Act → World → Prop), ok γ xs W → K (a₁ xs) W →
      assign.wpIn (Fence.wide.inRound l) (n - 1 - 1) P (Exit.then K (fun _ _ _ => False)) { tmps := (ps.zip xs).foldl (fun t (p, v) => t.setIfInBounds p v) a.tmps, defers := [] } W)
    (hbody : ∀ (l : Nat) (γ : Γ) (xs : Array Value) (W : World), I γ W → ok γ xs W → w.heap.size + 1 < W.heap.size → body.wpIn (Fence.wide.inRound l) (n - 1 - 1) P (bodyG S0 I Ix (nx γ) W) (a₁ xs) W)
    (hdone : ∀ (γ : Γ) (W : World), fin γ → I γ W → W.heap[w.heap.size]? = some (.deferred (some [])) → Q .normal { a with defers := { target := .collected w.heap.size, args := #[] } :: a.defers } W)
    (hstop : ∀ (c : Code) (W : World), Ix c W → W.heap[w.heap.size]? = some (.deferred (some [])) → c.wpIn Fence.wide n P Q { a with defers := { target := .collected w.heap.size, args := #[] } :: a.defers } W) :
    (Code.rangeFunc g ps assign body).wpIn Fence.wide n P Q a w := by
  refine wpIn_rangeFunc fun fn hfn => ?_
  obtain ⟨rec, hrec⟩ : ∃ rec : LoopState → Option Code → Loop, rec = fun st pe => { state := st, pending := pe, fn, tmps := a.tmps, params := ps, assign, body, defers := w.heap.size } := ⟨_, rfl⟩
  obtain ⟨W1, hW1⟩ : ∃ W1, (w.alloc (.deferred (some []))).alloc (.loop (rec .ready none)) = W1 := ⟨_, rfl⟩
  have bW : Below w.heap.size w W1 := by rw [← hW1]; exact ((Below.refl _ w).alloc (Nat.le_refl _) _).alloc (by simp) _
  have recAt : W1.heap[w.heap.size + 1]? = some (.loop (rec .ready none)) := by
    rw [← hW1]
    have h := heap_alloc_new (w.alloc (.deferred (some []))) (.loop (rec .ready none))
    rwa [World.size_alloc] at h
  have defAt : W1.heap[w.heap.size]? = some (.deferred (some [])) := by
    rw [← hW1]; exact heap_old (heap_alloc_new w _) _
  -- a turn of the record alone
  have turn : ∀ (A : World) (o : Obj), Kept A (A.putObj (w.heap.size + 1) o) (Rec2 w) := fun A o => (Kept.putObj A _ o).mono fun k _ e => .inr e
  have defKeeps : ∀ (A : World) (o : Obj), A.heap[w.heap.size]? = some (.deferred (some [])) → (A.putObj (w.heap.size + 1) o).heap[w.heap.size]? = some (.deferred (some [])) := fun A o h => (World.putObj_heap_other (by omega)).trans h
  refine ⟨w.heap.size + 1, [{ target := .collected w.heap.size, args := #[] }], W1, { target := .fn (.func gf) lb, args := #[.func (.yield (w.heap.size + 1)) #[] #[]] }, W1, gf,
    #[.func (.yield (w.heap.size + 1)) #[] #[]] ++ lb, W1, ?_, ?_, fun _ _ => trivial, ?_, fun _ => h1, ?_⟩
  · rw [← hW1, hrec]; exact run_enterLoop_outer _ _ _ _ _
  · simp only [resolve, hg]
    simp [go_sem]
  · simp [invoke, go_sem, eg]
  · refine (hseq (w.heap.size + 1)
      (fun γ A => I γ A ∧ A.heap[w.heap.size + 1]? = some (.loop (rec .ready none)) ∧ A.heap[w.heap.size]? = some (.deferred (some [])))
      (fun A => ∃ c, Ix c A ∧ A.heap[w.heap.size + 1]? = some (.loop (rec .done (some c))) ∧ A.heap[w.heap.size]? = some (.deferred (some [])))
      W1 bW (by omega) ?_ ?_ ⟨hI _ _ _ h0 (Kept.of_below bW fun k h1 h2 => by omega), recAt, defAt⟩).mono ?_
    · rintro γ A B ⟨i1, i2, i3⟩ hb
      exact ⟨hI _ _ _ i1 (Kept.of_below hb fun k h1 h2 => by omega), (hb.block _ (Array.getElem?_eq_some_iff.1 i2).1).trans i2, (hb.block _ (Array.getElem?_eq_some_iff.1 i3).1).trans i3⟩
    · rintro γ xs A ⟨i1, i2, i3⟩ hx
      have hlt : w.heap.size + 1 < A.heap.size := (Array.getElem?_eq_some_iff.1 i2).1
      have hy := run_yield (P := P) (args := xs) i2 (by rw [hrec]; exact hps _ _ _ hx)
      rw [hrec] at hy
      refine ⟨fn, _, assign, body, hy, roundIn_of_wpIn hfn (hassign _ γ xs A _ hx ⟨_, run_beginRound i2 (by rw [hrec]), ?_⟩)⟩
      have k0 := turn A (.loop { rec .ready none with state := .busy })
      have busy : (A.putObj (w.heap.size + 1) (.loop { rec .ready none with state := .busy })).heap[w.heap.size + 1]? = some (.loop { rec .ready none with state := .busy }) := World.putObj_heap_same hlt
      have def0 := defKeeps A (.loop { rec .ready none with state := .busy }) i3
      generalize hA0 : A.putObj (w.heap.size + 1) (.loop { rec .ready none with state := .busy }) = A0 at k0 busy def0 ⊢
      have kA : Kept A A0 (fun k => k = w.heap.size + 1) := by rw [← hA0]; exact Kept.putObj _ _ _
      clear hA0
      have lt0 : w.heap.size + 1 < A0.heap.size := Nat.lt_of_lt_of_le hlt k0.size
      refine wpIn_mono (hbody _ γ xs A0 (hI _ _ _ i1 k0) (hok _ _ _ _ hx (fun k hk => by
        rcases hk with rfl | rfl
        · exact ⟨_, i3, rfl⟩
        · exact ⟨_, i2, rfl⟩) k0) lt0) ?_
      have fin3 : ∀ (jump : Option Code) (B : World), Kept A0 B S0 →
          (Instr.endRound (w.heap.size + 1) jump).run P B = .ok (.bool jump.isNone) (B.putObj (w.heap.size + 1) (.loop (rec (if jump.isNone then .ready else .done) jump))) ∧
          (B.putObj (w.heap.size + 1) (.loop (rec (if jump.isNone then .ready else .done) jump))).heap[w.heap.size + 1]? = some (.loop (rec (if jump.isNone then .ready else .done) jump)) ∧
          (B.putObj (w.heap.size + 1) (.loop (rec (if jump.isNone then .ready else .done) jump))).heap[w.heap.size]? = some (.deferred (some [])) := fun jump B hk => by
        have hl3 : B.heap[w.heap.size + 1]? = some (.loop { rec .ready none with state := .busy }) := (hk.block _ lt0 (fun e => by have := hS0 _ e; omega)).trans busy
        have hd3 : B.heap[w.heap.size]? = some (.deferred (some [])) := (hk.block _ (by omega) (fun e => by have := hS0 _ e; omega)).trans def0
        have hr := run_endRound (P := P) jump hl3
        rw [hrec] at hr ⊢
        exact ⟨hr, World.putObj_heap_same (Nat.lt_of_lt_of_le lt0 hk.size), (World.putObj_heap_other (by omega)).trans hd3⟩
      rintro e a3 B hp
      cases e with
      | normal =>
        obtain ⟨hk, hi⟩ := hp
        obtain ⟨hr, h4, h5⟩ := fin3 none B hk
        refine ⟨_, _, hr, .inl ⟨rfl, ⟨hI _ _ _ hi (turn B _), h4, h5⟩, ?_⟩⟩
        exact ((kA.mono fun k _ e => .inr e).trans (hk.mono fun k _ e => .inl e)).trans ((Kept.putObj B _ _).mono fun k _ e => .inr e)
      | ret =>
        obtain ⟨hk, hi⟩ := hp
        obtain ⟨hr, h4, h5⟩ := fin3 (some .ret) B hk
        exact ⟨_, _, hr, .inr ⟨rfl, .ret, hIx _ _ _ hi (turn B _), h4, h5⟩⟩
      | exit id =>
        obtain ⟨hk, hi⟩ := hp
        obtain ⟨hr, h4, h5⟩ := fin3 (some (.exit id)) B hk
        exact ⟨_, _, hr, .inr ⟨rfl, .exit id, hIx _ _ _ hi (turn B _), h4, h5⟩⟩
      | goto t =>
        obtain ⟨hk, hi⟩ := hp
        obtain ⟨hr, h4, h5⟩ := fin3 (some (.goto t)) B hk
        exact ⟨_, _, hr, .inr ⟨rfl, .goto t, hIx _ _ _ hi (turn B _), h4, h5⟩⟩
      | panic ch => exact hp.elim
      | outgrown => exact hp.elim
    · rintro e B ⟨⟨v, rfl⟩, (⟨γ, hf, i1, i2, i3⟩ | ⟨c, i1, i2, i3⟩)⟩
      · exact ⟨none, _, by have := run_endLoop (P := P) i2 (by rw [hrec]; simp); rw [hrec] at this; exact this, hdone γ _ hf (hI _ _ _ i1 (turn B _)) (defKeeps B _ i3)⟩
      · exact ⟨some c, _, by have := run_endLoop (P := P) i2 (by rw [hrec]; simp); rw [hrec] at this; exact this, hstop c _ (hIx _ _ _ i1 (turn B _)) (defKeeps B _ i3)⟩
end Go.Proofs.Own

/- The word of frame.Each: it hands on a frame's kind and body as long as bytes begin with a frame; no conditions. -/
namespace Go.Proofs.YtofhccpagnkalaaGreat
open Go.RowKit Go.Maps Go.Proofs.Own Go.Shelf
attribute [local go_sem] Oper.semAt_some

def frOk (l : List Nat) (xs : Array Value) (W : World) : Prop := takeE l = 0 ∧ ∃ v, xs = #[.int .u8 (l.getD 1 0 : Nat), v] ∧ Bytes W v (frBody l)
def frNx (l : List Nat) : List Nat := l.drop (frN l + 8)
def frFin (l : List Nat) : Prop := takeE l ≠ 0
theorem Bytes.isCells {W : World} {v : Value} {l : List Nat} {b : Nat} (h : Bytes W v l) (hne : l ≠ []) (hb : v.ownBlock = some b) : ∃ o, W.heap[b]? = some o ∧ o.isCells = true := by
  obtain ⟨b', o, c, rfl, _, _, hc⟩ := h.somewhere (List.length_pos_iff.2 hne)
  obtain rfl : b' = b := Option.some.inj hb
  exact cells_of_cell (hc 0 (List.length_pos_iff.2 hne))
theorem Bytes.keptRec {w A B : World} {v : Value} {l : List Nat} (h : Bytes A v l) (hr : ∀ k, Rec2 w k → ∃ o, A.heap[k]? = some o ∧ o.isCells = false) (hk : Kept A B (Rec2 w)) : Bytes B v l := by
  by_cases hl : l = []
  · subst hl
    exact ⟨h.shape, by obtain ⟨a, c, rfl, _⟩ := h.shape; exact Reads.nil _ _ _ _, h.lt, h.small⟩
  · refine h.kept hk fun b hb e => ?_
    obtain ⟨o, h1, h2⟩ := h.isCells hl hb
    obtain ⟨o', h3, h4⟩ := hr b e
    rw [h1] at h3
    cases h3
    rw [h2] at h4
    cases h4
theorem frOk.kept {w A B : World} {l : List Nat} {xs : Array Value} (h : frOk l xs A) (hr : ∀ k, Rec2 w k → ∃ o, A.heap[k]? = some o ∧ o.isCells = false) (hk : Kept A B (Rec2 w)) : frOk l xs B := by
  obtain ⟨h1, v, rfl, h2⟩ := h
  exact ⟨h1, v, rfl, h2.keptRec hr hk⟩

theorem each_any (a : Option Addr) (n c : Nat) (w : World) : Calls Tryz.prog 129 #[.slice a n c] w fun e w' => e = .returned (.func (.func 149) #[] #[.pointer (some ⟨w.heap.size, 0, none⟩)]) ∧ w.alloc (.cells #[.slice a n c] 22) = w' := by
  go_enter Tryz.func129, Tryz.ntmps129
  go_wp2_with fail
  go_ret
  exact ⟨rfl, rfl⟩

set_option maxHeartbeats 2000000 in
set_option maxRecDepth 20000 in
theorem each_seq (n : Nat) (hn : 2 ≤ n) (bb rb : Nat) (v : Value) (l0 : List Nat) (w : World) (hc : w.cell? ⟨bb, 0, none⟩ = some v) (hB : Bytes w v l0) (hrb : l0 = [] ∨ v.ownBlock = some rb) (hrl : rb < w.heap.size) (S0 : Nat → Prop) (hS : ¬ S0 rb) :
    SeqG n Tryz.prog 149 #[.pointer (some ⟨bb, 0, none⟩)] S0 frOk frNx frFin l0 w := by
  intro ly J Jx W hw hl hJ hY h0
  have hcW : W.cell? ⟨bb, 0, none⟩ = some v := Below.at hw hc (World.block_lt_of_cell? _ _ hc)
  have HB := Lib.hid (hB.below hw)
  have HJ := Lib.hid hJ
  have HY := Lib.hid hY
  have H0 := Lib.hid h0
  have HRB := Lib.hid hrb
  have HNS : Hid (¬ (S0 rb ∨ rb = ly)) := Lib.hid (fun h => h.elim hS (fun e => by omega))
  obtain ⟨a, c, rfl, _⟩ := hB.shape
  clear hJ hY h0 hrb hB hc hS
  refine callsIn_of_wp Tryz.func149 rfl trivial ?_ rfl
  simp only [Tryz.ntmps149, List.size_toArray, List.length_cons, List.length_nil, Nat.reduceAdd, Nat.reduceSub, Array.replicate_succ, Array.replicate_zero, List.push_toArray, List.append_toArray, List.nil_append, List.cons_append]
  gi_wp2_with fail
  gi_loopw [3] (fun x wr => ∃ (l : List Nat) (a : Option Addr) (m c : Nat), x = .slice a m c ∧ Bytes wr (.slice a m c) l ∧ (l = [] ∨ (Value.slice a m c).ownBlock = some rb) ∧ J l wr) (fun x _ => match x with | .slice _ m _ => m | _ => 0)
  case atStart => exact ⟨l0, a, _, c, rfl, HB.out, HRB.out, H0.out⟩
  case round =>
    obtain ⟨l, a, m, c, rfl, hb, hr, hj⟩ := hrel
    have BL := Lib.hid hb
    have RL := Lib.hid hr
    have JL := Lib.hid hj
    have HM : Hid (m = l.length) := Lib.hid hb.cells.1
    have hml : (m : Int) ≤ 2097152 := by have := hb.small; rw [← hb.cells.1] at this; omega
    clear hb hr hj hcW HB HRB H0
    by_cases hz : m = 0
    · subst hz
      have HF : Hid (frFin l) := Lib.hid (by
        have : l = [] := List.eq_nil_of_length_eq_zero HM.out.symm
        subst this
        unfold frFin
        decide)
      gi_wp2_with fail
      go_end0
      exact ⟨⟨_, rfl⟩, .inl ⟨l, HF.out, JL.out⟩⟩
    · have hz0 : (0 : Int) < (m : Int) := by omega
      clear hz
      gi_wp2_with fail
      refine ⟨trivial, fun _ => (by omega), ?_⟩
      refine ((callsIn_wide (n := n - 1)).2 (take_any _ l _ BL.out)).mono ?_
      rintro e w1 ⟨hb1, hno, hyes⟩
      have B1 := Lib.hid hb1
      have J1 := Lib.hid (HJ.out _ _ _ JL.out hb1)
      have BL1 := Lib.hid (BL.out.below hb1)
      by_cases ht : takeE l = 0
      · obtain ⟨v', rfl, hB'⟩ := hyes ht
        obtain ⟨kd, hkd⟩ : ∃ k, l.getD 1 0 = k := ⟨_, rfl⟩
        obtain ⟨fn, tmps, assign, body, hy, hR⟩ := HY.out l #[.int .u8 (kd : Nat), v'] w1 J1.out ⟨ht, v', by rw [hkd], hB'⟩
        have HN : Hid (sizeE l = 0) := Lib.hid (by false_or_by_contra; rename_i h; unfold takeE at ht; rw [if_pos h] at ht; exact h ht)
        rw [hkd]
        generalize hq : frN l + 8 = q
        have HQ := Lib.hid hq
        obtain ⟨a', n', c', rfl⟩ : ∃ a n c, v' = Value.slice a n c := by obtain ⟨a, c, e, _⟩ := hB'.shape; exact ⟨a, _, c, e⟩
        have HRR := Lib.hid hR
        clear hb1 hno hyes ht hB' hkd hR hq
        gi_wp2_with fail
        refine ⟨fun _ => (by omega), ?_⟩
        refine HRR.out.mono ?_
        rintro e W3 (⟨rfl, hJ3, hk3⟩ | ⟨rfl, hJx3⟩)
        · have HB3 : Hid (Bytes W3 (.slice a m c) l) := Lib.hid (by
            rcases RL.out with e | e
            · have h0 := HM.out
              rw [e, List.length_nil] at h0
              omega
            · exact BL1.out.kept hk3 fun b hb h => by rw [e] at hb; cases hb; exact HNS.out h)
          have HL : Hid (q ≤ l.length) := Lib.hid (by rw [← HQ.out]; have := sizeE_len HN.out; omega)
          obtain ⟨v4, hB4, hO4, hcut⟩ := HB3.out.cutlo Tryz.u8s q HL.out
          obtain ⟨a4, n4, c4, rfl⟩ : ∃ a n c, v4 = Value.slice a n c := by obtain ⟨a, c, e, _⟩ := hB4.shape; exact ⟨a, _, c, e⟩
          have HB4 := Lib.hid hB4
          have HO4 := Lib.hid hO4
          have J3 := Lib.hid hJ3
          have hq0 : (0 : Int) ≤ (q : Int) := by omega
          clear hJ3 hk3 hB4 hO4 hy
          gi_wp2_with fail
          go_roundw
          case rel => exact ⟨l.drop q, a4, n4, c4, rfl, HB4.out, RL.out.imp (fun e => by rw [e]; exact List.drop_nil) (fun e => HO4.out.trans e), by have := J3.out; unfold frNx at this; rw [HQ.out] at this; exact this⟩
          case measure =>
            have h1 := HB4.out.cells.1
            rw [List.length_drop] at h1
            have := HM.out
            have := HL.out
            have := HQ.out
            show n4 < m
            omega
        · have JX := Lib.hid hJx3
          clear hJx3 hy
          gi_wp2_with fail
          refine bodyPost_ret (results_none rfl _ _ _) rfl ?_
          exact ⟨⟨_, rfl⟩, .inr JX.out⟩
      · have h := hno ht
        subst h
        have HT := Lib.hid ht
        obtain ⟨k, hk⟩ : ∃ k, takeE l = k := ⟨_, rfl⟩
        rw [hk]
        have hkb : ((k : Int) != 0) = true := by have := ht; rw [hk] at this; simp; omega
        clear hb1 hno hyes ht hk
        gi_wp2_with fail
        refine ⟨fun _ h => (by cases h), ?_⟩
        gi_wp2_with fail
        refine bodyPost_ret (results_none rfl _ _ _) rfl ?_
        exact ⟨⟨_, rfl⟩, .inl ⟨l, HT.out, J1.out⟩⟩
end Go.Proofs.YtofhccpagnkalaaGreat

/- The contract of vow.last: the state that bytes have, and how many of them are good; no conditions but the ranges. -/
namespace Go.Proofs.YtofhccpagnkalaaGreat
open Go.RowKit Go.Maps Go.Proofs.Own Go.Shelf
attribute [local go_sem] Oper.semAt_some

def vT (l : List Nat) : Nat := numV H60 (frBody l)
def vV (l : List Nat) : Nat := numV 7 (numL H60 (frBody l))
def vE (l : List Nat) : Nat := endE (numL 7 (numL H60 (frBody l))) (numB H60 (frBody l) || numB 7 (numL H60 (frBody l)))
/-- A frame of a state follows. -/
def vGo (l : List Nat) : Prop := takeE l = 0 ∧ l.getD 1 0 = 3 ∧ vE l = 0
instance (l : List Nat) : Decidable (vGo l) := inferInstanceAs (Decidable (_ ∧ _))
/-- Term, vote, how many bytes are good. -/
structure LastS where
  t : Int
  v : Int
  g : Nat
def lastF : Nat → List Nat → LastS → LastS
  | 0, _, s => s
  | n + 1, l, s => if vGo l then lastF n (frNx l) ⟨vT l, (vV l : Int) - 1, s.g + (frBody l).length + 8⟩ else s
def lastR (l : List Nat) : LastS := lastF l.length l ⟨0, -1, 0⟩
theorem lastF_no {l : List Nat} (h : ¬ vGo l) (n : Nat) (s : LastS) : lastF n l s = s := by
  cases n with
  | zero => rfl
  | succ n => unfold lastF; rw [if_neg h]
theorem lastF_go {l : List Nat} (h : vGo l) (n : Nat) (s : LastS) : lastF (n + 1) l s = lastF n (frNx l) ⟨vT l, (vV l : Int) - 1, s.g + (frBody l).length + 8⟩ := if_pos h
theorem frNx_len {l : List Nat} (h : takeE l = 0) : (frNx l).length + 8 ≤ l.length ∧ (frBody l).length + 8 ≤ l.length ∧ (frNx l).length + ((frBody l).length + 8) = l.length := by
  have hs : sizeE l = 0 := by
    false_or_by_contra
    rename_i h2
    unfold takeE at h
    rw [if_pos h2] at h
    exact h2 h
  have h1 := sizeE_len hs
  have h2 := length_frBody hs
  unfold frNx
  rw [List.length_drop, h2]
  omega

/-- The two blocks from b on: a state, and how many bytes are good. -/
structure LSC (W : World) (b : Nat) (s : LastS) : Prop where
  c0 : W.cell? ⟨b, 0, none⟩ = some (.int .u64 s.t)
  c1 : W.cell? ⟨b, 1, none⟩ = some (.int .i64 s.v)
  c2 : W.cell? ⟨b + 1, 0, none⟩ = some (.int .i64 s.g)
  f0 : W.frozen? ⟨b, 0, none⟩ = false
  f1 : W.frozen? ⟨b, 1, none⟩ = false
  f2 : W.frozen? ⟨b + 1, 0, none⟩ = false
theorem LSC.kept {W W' : World} {b : Nat} {s : LastS} (h : LSC W b s) (hk : Kept W W' (fun k => b + 2 ≤ k)) : LSC W' b s := by
  have l0 : b < W.heap.size := World.block_lt_of_cell? _ _ h.c0
  have l1 : b + 1 < W.heap.size := World.block_lt_of_cell? _ _ h.c2
  have n0 : ¬ b + 2 ≤ b := by omega
  have n1 : ¬ b + 2 ≤ b + 1 := by omega
  exact ⟨hk.cell h.c0 n0, hk.cell h.c1 n0, hk.cell h.c2 n1, (hk.frozen (a := ⟨b, 0, none⟩) l0 n0).trans h.f0, (hk.frozen (a := ⟨b, 1, none⟩) l0 n0).trans h.f1, (hk.frozen (a := ⟨b + 1, 0, none⟩) l1 n1).trans h.f2⟩
theorem LSC.set3 {W : World} {b : Nat} {s : LastS} (h : LSC W b s) (t v : Int) (g : Nat) : LSC (((W.setCell ⟨b, 0, none⟩ (.int .u64 t)).setCell ⟨b, 1, none⟩ (.int .i64 v)).setCell ⟨b + 1, 0, none⟩ (.int .i64 (g : Int))).drew b ⟨t, v, g⟩ := by
  refine ⟨?_, ?_, ?_, ?_, ?_, ?_⟩
  · show World.cell? (World.setCell _ _ _) _ = _
    rw [World.cell?_setCell_other _ _ _ _ (by simp), World.cell?_setCell_other _ _ _ _ (by simp)]
    exact World.cell?_setCell_same _ _ _ h.c0
  · show World.cell? (World.setCell _ _ _) _ = _
    rw [World.cell?_setCell_other _ _ _ _ (by simp)]
    exact World.cell?_setCell_same _ _ _ (by rw [World.cell?_setCell_other _ _ _ _ (by simp)]; exact h.c1)
  · show World.cell? (World.setCell _ _ _) _ = _
    exact World.cell?_setCell_same _ _ _ (by rw [World.cell?_setCell_other _ _ _ _ (by simp), World.cell?_setCell_other _ _ _ _ (by simp)]; exact h.c2)
  · show World.frozen? (World.setCell _ _ _) _ = _
    rw [World.frozen?_setCell, World.frozen?_setCell, World.frozen?_setCell]; exact h.f0
  · show World.frozen? (World.setCell _ _ _) _ = _
    rw [World.frozen?_setCell, World.frozen?_setCell, World.frozen?_setCell]; exact h.f1
  · show World.frozen? (World.setCell _ _ _) _ = _
    rw [World.frozen?_setCell, World.frozen?_setCell, World.frozen?_setCell]; exact h.f2
/-- Between two rounds: what is left; what was found. -/
def LastI (w : World) (l0 γ : List Nat) (W : World) : Prop :=
  ∃ n s, γ.length ≤ n ∧ lastR l0 = lastF n γ s ∧ LSC W w.heap.size s ∧ Below w.heap.size w W ∧ s.g + γ.length ≤ l0.length
theorem LastI.kept {w A B : World} {l0 γ : List Nat} (h : LastI w l0 γ A) (hk : Kept A B (fun k => w.heap.size + 2 ≤ k)) : LastI w l0 γ B := by
  obtain ⟨n, s, h1, h2, h3, h4, h5⟩ := h
  exact ⟨n, s, h1, h2, h3.kept hk, h4.trans (hk.below h4.size (fun k e => by omega)), h5⟩

set_option maxHeartbeats 2000000 in
set_option maxRecDepth 100000 in
theorem vlast_any (v : Value) (l0 : List Nat) (w : World) (hB : Bytes w v l0) :
    Calls Tryz.prog 100 #[v] w fun e w' => e = .returned (.tuple #[.agg #[.int .u64 (lastR l0).t, .int .i64 (lastR l0).v], .int .i64 (lastR l0).g]) ∧ Below w.heap.size w w' := by
  have HB := Lib.hid hB
  obtain ⟨a, c, rfl, _⟩ := hB.shape
  clear hB
  refine (callsIn_wide (n := 6)).1 ?_
  refine callsIn_of_wp_marks Tryz.func100 rfl trivial ?_ rfl
  simp only [Tryz.ntmps100, List.size_toArray, List.length_cons, List.length_nil, Nat.reduceAdd, Nat.reduceSub, Array.replicate_succ, Array.replicate_zero, List.push_toArray, List.append_toArray, List.nil_append, List.cons_append]
  gi_wp2_with fail
  refine ⟨trivial, ?_⟩
  refine ((callsIn_wide (n := 5)).2 (each_any _ _ _ _)).mono ?_
  rintro e w1 ⟨rfl, rfl⟩
  gi_wp2_with fail
  generalize hwL : World.alloc (World.alloc (World.alloc w _) _) _ = wL
  have BL : Hid (Below w.heap.size w wL) := Lib.hid (by subst hwL; exact (((Below.refl _ _).alloc (Nat.le_refl _) _).alloc (by simp) _).alloc (by simp; omega) _)
  have LL : Hid (wL.heap.size = w.heap.size + 3) := Lib.hid (by subst hwL; simp)
  have CB : Hid (wL.cell? ⟨w.heap.size + 1 + 1, 0, none⟩ = some (.slice a l0.length c)) := Lib.hid (by subst hwL; go_cell)
  have C0 : Hid (LSC wL w.heap.size ⟨0, -1, 0⟩) := Lib.hid (by
    have hb0 : wL.heap[w.heap.size]? = some (.cells #[.int .u64 0, .int .i64 (-1)] 59 (0, 0)) := by subst hwL; exact heap_old (heap_old (heap_alloc_new w _) _) _
    have hb1 : wL.heap[w.heap.size + 1]? = some (.cells #[.int .i64 0] 3 (0, 0)) := by subst hwL; exact heap_old (heap_at (w := w.alloc _) (by simp) _) _
    exact ⟨by simp [World.cell?, hb0], by simp [World.cell?, hb0], by simp [World.cell?, hb1], by simp [World.frozen?, hb0], by simp [World.frozen?, hb0], by simp [World.frozen?, hb1]⟩)
  clear hwL
  obtain ⟨S0, hS0⟩ : ∃ S0 : Nat → Prop, S0 = fun k => k = w.heap.size ∨ k = w.heap.size + 1 := ⟨_, rfl⟩
  have HS0 : Hid (∀ k, S0 k ↔ (k = w.heap.size ∨ k = w.heap.size + 1)) := Lib.hid (by intro k; rw [hS0])
  clear hS0
  obtain ⟨rb, hrb⟩ : ∃ rb, (l0 = [] ∨ (Value.slice a l0.length c).ownBlock = some rb) ∧ rb < wL.heap.size ∧ ¬ S0 rb := by
    by_cases he : l0 = []
    · exact ⟨w.heap.size + 2, .inl he, by rw [LL.out]; omega, fun h => by have := (HS0.out _).1 h; omega⟩
    · obtain ⟨b, h1, h2⟩ := HB.out.lt_block he
      exact ⟨b, .inr h1, by rw [LL.out]; omega, fun h => by have := (HS0.out _).1 h; omega⟩
  refine wpIn_range (by decide) (gf := 149) (lb := #[.pointer (some ⟨w.heap.size + 1 + 1, 0, none⟩)]) rfl (enters_of Tryz.func149 (by kernel_rfl) rfl)
    (each_seq 5 (by decide) (w.heap.size + 1 + 1) rb (.slice a l0.length c) l0 wL CB.out (HB.out.below (BL.out.mono (Nat.le_refl _))) hrb.1 hrb.2.1 S0 hrb.2.2)
    (fun k h => by have := (HS0.out _).1 h; rw [LL.out]; omega) (fun γ xs W h => by obtain ⟨_, v, rfl, _⟩ := h; rfl) (fun γ xs A B h hr hk => h.kept hr hk)
    (LastI w l0) (fun c W => c = .exit 0 ∧ LSC W w.heap.size (lastR l0) ∧ Below w.heap.size w W)
    (fun γ A B h hk => h.kept (hk.mono fun k _ e => by rcases e with e | e <;> (rw [LL.out] at e; exact Nat.le_of_lt_succ (by omega))))
    (fun c A B h hk => ⟨h.1, h.2.1.kept (hk.mono fun k _ e => by rcases e with e | e <;> (rw [LL.out] at e; exact Nat.le_of_lt_succ (by omega))), h.2.2.trans (hk.below (by have := h.2.2.size; omega) (fun k e => by rcases e with e | e <;> (rw [LL.out] at e; omega)))⟩)
    ⟨l0.length, ⟨0, -1, 0⟩, Nat.le_refl _, rfl, C0.out, BL.out, by simp⟩
    (fun xs => { tmps := #[.slice a l0.length c, undef, .pointer (some ⟨w.heap.size, 0, none⟩), .pointer (some ⟨w.heap.size + 1, 0, none⟩), xs.getD 0 undef, xs.getD 1 undef, undef, undef, .pointer (some ⟨w.heap.size, 1, none⟩), .slice a l0.length c, .func (.func 149) #[] #[.pointer (some ⟨w.heap.size + 1 + 1, 0, none⟩)], xs.getD 0 undef, xs.getD 1 undef, undef, undef, undef, undef, undef, undef, undef, undef, undef, undef, undef, undef, undef, undef, undef, undef, undef, undef, undef, undef, undef, undef, undef, undef, undef], defers := [] }) ?assign ?body ?done ?stop
  case assign =>
    rintro l γ xs W K ⟨_, v', rfl, _⟩ hK
    gi_wp2_with fail
    exact hK
  case body =>
    rintro l γ xs W ⟨n, s, hn, hs, hsc, hbw, hg⟩ ⟨ht, v', rfl, hB'⟩ hlt
    have HN := Lib.hid hn
    have HS := Lib.hid hs
    have HSC := Lib.hid hsc
    have HBW := Lib.hid hbw
    have HBG := Lib.hid hg
    have HT := Lib.hid ht
    obtain ⟨kd, hkd⟩ : ∃ k, γ.getD 1 0 = k := ⟨_, rfl⟩
    have HKD := Lib.hid hkd
    rw [hkd]
    obtain ⟨rv, hrv⟩ : ∃ rv, (frBody γ = [] ∨ v'.ownBlock = some rv) ∧ rv < W.heap.size := by
      by_cases he : frBody γ = []
      · exact ⟨0, .inl he, by have := LL.out; omega⟩
      · obtain ⟨b, h1, h2⟩ := hB'.lt_block he
        exact ⟨b, .inr h1, by omega⟩
    obtain ⟨av, mv, cv, rfl⟩ : ∃ a n c, v' = Value.slice a n c := by obtain ⟨a, c, e, _⟩ := hB'.shape; exact ⟨a, _, c, e⟩
    have HB2 := Lib.hid hB'
    have HRV := Lib.hid hrv
    have LB : Hid (w.heap.size + 1 < W.heap.size) := Lib.hid (by have := LL.out; omega)
    clear hn hs hsc hbw hg ht hkd hB' hrv
    gi_wp2_with fail
    refine ⟨trivial, ?_⟩
    refine (CallsIn.inRound l ((callsIn_wide (n := 3)).2 (qopen_any _ _ _ HB2.out HRV.out.1 (Nat.ne_of_lt HRV.out.2)))).mono ?_
    rintro e w1 ⟨rfl, hr1, hb1⟩
    have R1 := Lib.hid hr1
    have K1 : Hid (Kept W w1 (fun _ => False)) := Lib.hid (Kept.of_below hb1 fun k h1 h2 => by omega)
    clear hr1 hb1
    gi_wp2_with fail
    refine ⟨trivial, ?_⟩
    refine (CallsIn.inRound l ((callsIn_wide (n := 3)).2 (qnum_any _ _ _ _ _ R1.out (by decide) (by decide)))).mono ?_
    rintro e w2 ⟨rfl, hr2, hk2⟩
    have R2 : Hid (RdrIs w2 W.heap.size rv (numL H60 (frBody γ)) (numB H60 (frBody γ))) := Lib.hid (by have h := hr2; rw [Bool.false_or] at h; exact h)
    have K2 : Hid (Kept W w2 (fun _ => False)) := Lib.hid (K1.out.stepNew hk2 (Nat.le_refl _))
    have L2 : W.heap.size < w2.heap.size := hr2.lt
    have HTT : Hid (vT γ = numV (Int.toNat 1152921504606846976) (frBody γ)) := Lib.hid rfl
    have htm : (numV (Int.toNat 1152921504606846976) (frBody γ) : Int) ≤ 1152921504606846976 := by have := numV_le (Int.toNat 1152921504606846976) (frBody γ); omega
    generalize numV (Int.toNat 1152921504606846976) (frBody γ) = tt at HTT htm ⊢
    clear hr2 hk2
    gi_wp2_with fail
    have XA : (w2.alloc (.cells #[.int .u64 tt, .int .i64 0] 59)).cell? ⟨w2.heap.size, 0, none⟩ = some (.int .u64 tt) ∧ (w2.alloc (.cells #[.int .u64 tt, .int .i64 0] 59)).cell? ⟨w2.heap.size, 1, none⟩ = some (.int .i64 0) ∧ (w2.alloc (.cells #[.int .u64 tt, .int .i64 0] 59)).frozen? ⟨w2.heap.size, 1, none⟩ = false := ⟨by go_cell, by go_cell, by simp⟩
    have BA : Below w2.heap.size w2 (w2.alloc (.cells #[.int .u64 tt, .int .i64 0] 59)) := (Below.refl _ _).alloc (Nat.le_refl _) _
    generalize World.alloc w2 _ = w3 at *
    have X3 := Lib.hid XA
    have R3 := Lib.hid (R2.out.below BA)
    have K3 : Hid (Kept W w3 (fun _ => False)) := Lib.hid (K2.out.trans (Kept.of_below BA fun k h1 h2 => by omega))
    have L3 : w2.heap.size < w3.heap.size := World.block_lt_of_cell? _ _ XA.1
    clear XA BA
    refine ⟨trivial, ?_⟩
    refine (CallsIn.inRound l ((callsIn_wide (n := 3)).2 (qnum_any _ 7 _ _ w3 R3.out (by decide) (by decide)))).mono ?_
    rintro e w4 ⟨rfl, hr4, hk4⟩
    have NX : Hid (¬ w2.heap.size = W.heap.size) := Lib.hid (by omega)
    have R4 : Hid (RdrIs w4 W.heap.size rv (numL 7 (numL H60 (frBody γ))) (numB H60 (frBody γ) || numB 7 (numL H60 (frBody γ)))) := Lib.hid hr4
    have K4 : Hid (Kept W w4 (fun _ => False)) := Lib.hid (K3.out.stepNew hk4 (Nat.le_refl _))
    have X4 : Hid (w4.cell? ⟨w2.heap.size, 0, none⟩ = some (.int .u64 tt) ∧ w4.cell? ⟨w2.heap.size, 1, none⟩ = some (.int .i64 0) ∧ w4.frozen? ⟨w2.heap.size, 1, none⟩ = false) := Lib.hid ⟨hk4.cell X3.out.1 NX.out, hk4.cell X3.out.2.1 NX.out, (hk4.frozen (a := ⟨w2.heap.size, 1, none⟩) L3 NX.out).trans X3.out.2.2⟩
    have L4 : w2.heap.size < w4.heap.size := Nat.lt_of_lt_of_le L3 hk4.size
    have HVV : Hid (vV γ = numV (Int.toNat 7) (numL H60 (frBody γ))) := Lib.hid rfl
    have hvm : (numV (Int.toNat 7) (numL H60 (frBody γ)) : Int) ≤ 7 := by have := numV_le (Int.toNat 7) (numL H60 (frBody γ)); omega
    generalize numV (Int.toNat 7) (numL H60 (frBody γ)) = vv at HVV hvm ⊢
    clear hr4 hk4
    obtain ⟨x0, x1, f1⟩ := X4.out
    have KS : Hid (Kept w4 (w4.setCell ⟨w2.heap.size, 1, none⟩ (.int .i64 ((vv : Int) + -1))) (fun k => k = w2.heap.size)) := Lib.hid (Kept.setCell _ _ _)
    have K5 : Hid (Kept W (w4.setCell ⟨w2.heap.size, 1, none⟩ (.int .i64 ((vv : Int) + -1))) (fun _ => False)) := Lib.hid (K4.out.stepNew KS.out (Nat.le_of_lt L2))
    have R5 : Hid (RdrIs (w4.setCell ⟨w2.heap.size, 1, none⟩ (.int .i64 ((vv : Int) + -1))) W.heap.size rv (numL 7 (numL H60 (frBody γ))) (numB H60 (frBody γ) || numB 7 (numL H60 (frBody γ)))) := Lib.hid (R4.out.kept KS.out (fun e => NX.out e.symm) (fun e => by have := HRV.out.2; omega))
    have X5 : Hid ((w4.setCell ⟨w2.heap.size, 1, none⟩ (.int .i64 ((vv : Int) + -1))).cell? ⟨w2.heap.size, 0, none⟩ = some (.int .u64 tt) ∧ (w4.setCell ⟨w2.heap.size, 1, none⟩ (.int .i64 ((vv : Int) + -1))).cell? ⟨w2.heap.size, 1, none⟩ = some (.int .i64 ((vv : Int) + -1))) := Lib.hid ⟨by rw [World.cell?_setCell_other _ _ _ _ (by simp)]; exact x0, World.cell?_setCell_same _ _ _ x1⟩
    have LEAVE : Hid (¬ vGo γ → ∀ W', Kept W W' (fun _ => False) → Kept W W' S0 ∧ LSC W' w.heap.size (lastR l0) ∧ Below w.heap.size w W') := Lib.hid fun hng W' hk => ⟨hk.mono fun _ _ h => h.elim, by rw [HS.out, lastF_no hng]; exact HSC.out.kept (hk.mono fun _ _ h => h.elim), HBW.out.trans (hk.below HBW.out.size (fun _ h => h.elim))⟩
    by_cases h3 : kd = 3
    · have h3b : ((kd : Int) != 3) = false := by rw [h3]; rfl
      have HK3 := Lib.hid h3
      gi_wp2_with fail
      refine ⟨trivial, ?_⟩
      refine (CallsIn.inRound l ((callsIn_wide (n := 3)).2 (qend_any _ _ _ _ R5.out))).mono ?_
      rintro e w6 ⟨rfl, rfl⟩
      generalize w4.setCell ⟨w2.heap.size, 1, none⟩ (.int .i64 ((vv : Int) + -1)) = w5 at *
      clear x0 x1 f1 h3b
      by_cases he : vE γ = 0
      · have HEV : Hid (endE (numL 7 (numL H60 (frBody γ))) (numB H60 (frBody γ) || numB 7 (numL H60 (frBody γ))) = 0) := Lib.hid he
        rw [HEV.out]
        have HGO : Hid (vGo γ) := Lib.hid ⟨HT.out, by rw [HKD.out]; exact HK3.out, he⟩
        obtain ⟨y0, y1⟩ := X5.out
        have HSC5 : Hid (LSC w5 w.heap.size s) := Lib.hid (HSC.out.kept (K5.out.mono fun _ _ h => h.elim))
        obtain ⟨s0, s1, s2, g0, g1, g2⟩ := HSC5.out
        have hmv : mv = (frBody γ).length := HB2.out.cells.1
        have HMV := Lib.hid hmv
        have hsg : (s.g : Int) + (mv : Int) + 8 ≤ 2097152 := by
          have h1 := HBG.out
          have h2 := (frNx_len HT.out).2.2
          have h3 := HB.out.small
          omega
        clear he h3 hmv
        have hmo : Tryz.prog.follows .mixedOrders = true := by kernel_rfl
        have e1 : IntKind.i64.wrap ((s.g : Int) + (mv : Int)) = (s.g : Int) + (mv : Int) := by simp only [IntKind.wrap_i64]; omega
        have e2 : IntKind.i64.wrap ((s.g : Int) + (mv : Int) + 8) = (s.g : Int) + (mv : Int) + 8 := by simp only [IntKind.wrap_i64]; omega
        have FIN : Hid (Kept W (((w5.setCell ⟨w.heap.size, 0, none⟩ (.int .u64 tt)).setCell ⟨w.heap.size, 1, none⟩ (.int .i64 ((vv : Int) + -1))).setCell ⟨w.heap.size + 1, 0, none⟩ (.int .i64 ((s.g : Int) + (mv : Int) + 8))).drew S0 ∧ LastI w l0 (frNx γ) (((w5.setCell ⟨w.heap.size, 0, none⟩ (.int .u64 tt)).setCell ⟨w.heap.size, 1, none⟩ (.int .i64 ((vv : Int) + -1))).setCell ⟨w.heap.size + 1, 0, none⟩ (.int .i64 ((s.g : Int) + (mv : Int) + 8))).drew) := Lib.hid (by
          have hgg : ((s.g : Int) + (mv : Int) + 8) = ((s.g + (frBody γ).length + 8 : Nat) : Int) := by rw [HMV.out]; omega
          have hvv : ((vv : Int) + -1) = (vV γ : Int) - 1 := by rw [HVV.out]; omega
          have htt : (tt : Int) = (vT γ : Int) := by rw [HTT.out]
          rw [hgg, hvv, htt]
          have kk : Kept w5 (((w5.setCell ⟨w.heap.size, 0, none⟩ (.int .u64 (vT γ : Int))).setCell ⟨w.heap.size, 1, none⟩ (.int .i64 ((vV γ : Int) - 1))).setCell ⟨w.heap.size + 1, 0, none⟩ (.int .i64 ((s.g + (frBody γ).length + 8 : Nat) : Int))).drew S0 := by
            refine Kept.trans (b := _) ?_ (Kept.drew _ _)
            refine (((Kept.setCell w5 _ _).mono fun k _ e => (HS0.out k).2 (.inl e)).trans ((Kept.setCell _ _ _).mono fun k _ e => (HS0.out k).2 (.inl e))).trans ((Kept.setCell _ _ _).mono fun k _ e => (HS0.out k).2 (.inr e))
          have kW := (K5.out.mono (fun _ _ h => h.elim)).trans kk
          obtain ⟨q1, q2, q3⟩ := frNx_len HT.out
          refine ⟨kW, n - 1, ⟨vT γ, (vV γ : Int) - 1, s.g + (frBody γ).length + 8⟩, by have := HN.out; omega, ?_, HSC5.out.set3 _ _ _, HBW.out.trans (kW.below HBW.out.size (fun k h => by have := (HS0.out k).1 h; omega)), by have := HBG.out; simp only; omega⟩
          obtain ⟨m, hm⟩ : ∃ m, n = m + 1 := ⟨n - 1, by have := HN.out; omega⟩
          rw [HS.out, hm, Nat.add_sub_cancel]
          exact lastF_go HGO.out m s)
        gi_wp2_with fail
        gi_region_with_o (fail)
        all_goals
          first | exact FIN.out | (gi_wp2_with fail; exact FIN.out)
      · obtain ⟨q, hq⟩ : ∃ q, endE (numL 7 (numL H60 (frBody γ))) (numB H60 (frBody γ) || numB 7 (numL H60 (frBody γ))) = q := ⟨_, rfl⟩
        have hqb : ((q : Int) != 0) = true := by have : q ≠ 0 := fun e => he (hq.trans e); simp; omega
        rw [hq]
        have HNG : Hid (¬ vGo γ) := Lib.hid (fun h => he h.2.2)
        clear he hq
        gi_wp2_with fail
        have h := LEAVE.out HNG.out _ K5.out
        exact ⟨h.1, rfl, h.2⟩
    · have h3b : ((kd : Int) != 3) = true := by simp; omega
      have HNG : Hid (¬ vGo γ) := Lib.hid (fun h => h3 (by rw [← HKD.out]; exact h.2.1))
      gi_wp2_with fail
      refine ⟨trivial, ?_⟩
      gi_wp2_with fail
      have h := LEAVE.out HNG.out _ K5.out
      exact ⟨h.1, rfl, h.2⟩
  case done =>
    rintro γ W hf ⟨n, s, hn, hs, hsc, hbw, hg⟩ hD
    have HSC := Lib.hid hsc
    have HBW := Lib.hid hbw
    have HR : Hid (lastR l0 = s) := Lib.hid (by rw [hs, lastF_no (fun h => hf h.1)])
    have HD := Lib.hid hD
    clear hn hs hsc hbw hg hf hD
    have HRR : Hid (lastR l0 = s) := HR
    obtain ⟨s0, s1, s2, g0, g1, g2⟩ := HSC.out
    have hmo : Tryz.prog.follows .mixedOrders = true := by kernel_rfl
    have W2 := Lib.hid (HSC.out.set3 s.t s.v s.g)
    have H2 : Hid ((((W.setCell ⟨w.heap.size, 0, none⟩ (.int .u64 s.t)).setCell ⟨w.heap.size, 1, none⟩ (.int .i64 s.v)).setCell ⟨w.heap.size + 1, 0, none⟩ (.int .i64 (s.g : Int))).drew.heap[wL.heap.size]? = some (.deferred (some []))) := Lib.hid (by
      have l := LL.out
      refine (Below.heap_setCell _ ⟨w.heap.size + 1, 0, none⟩ _ wL.heap.size (by show wL.heap.size ≠ w.heap.size + 1; omega)).trans ?_
      refine (Below.heap_setCell _ ⟨w.heap.size, 1, none⟩ _ wL.heap.size (by show wL.heap.size ≠ w.heap.size; omega)).trans ?_
      exact (Below.heap_setCell _ ⟨w.heap.size, 0, none⟩ _ wL.heap.size (by show wL.heap.size ≠ w.heap.size; omega)).trans HD.out)
    have B2 : Hid (Below w.heap.size w (((W.setCell ⟨w.heap.size, 0, none⟩ (.int .u64 s.t)).setCell ⟨w.heap.size, 1, none⟩ (.int .i64 s.v)).setCell ⟨w.heap.size + 1, 0, none⟩ (.int .i64 (s.g : Int))).drew) := Lib.hid (by
      have k : Kept W (((W.setCell ⟨w.heap.size, 0, none⟩ (.int .u64 s.t)).setCell ⟨w.heap.size, 1, none⟩ (.int .i64 s.v)).setCell ⟨w.heap.size + 1, 0, none⟩ (.int .i64 (s.g : Int))).drew (fun k => k = w.heap.size ∨ k = w.heap.size + 1) := by
        refine Kept.trans (b := _) ?_ (Kept.drew _ _)
        exact (((Kept.setCell W _ _).mono fun k _ e => .inl e).trans ((Kept.setCell _ _ _).mono fun k _ e => .inl e)).trans ((Kept.setCell _ _ _).mono fun k _ e => .inr e)
      exact HBW.out.trans (k.below HBW.out.size (fun k h => by omega)))
    gi_wp2_with fail
    gi_region_with_o (fail)
    all_goals
      gi_wp2_with fail
      generalize (((W.setCell ⟨w.heap.size, 0, none⟩ (.int .u64 s.t)).setCell ⟨w.heap.size, 1, none⟩ (.int .i64 s.v)).setCell ⟨w.heap.size + 1, 0, none⟩ (.int .i64 (s.g : Int))).drew = W2w at *
      refine ⟨by simp, .inl ⟨_, _, rfl, run_takeDeferred H2.out, ?_⟩⟩
      have kp : Kept W2w (W2w.putObj wL.heap.size (.deferred none)) (fun k => w.heap.size + 2 ≤ k) := (Kept.putObj _ _ _).mono fun k _ e => by have := LL.out; omega
      have w3 := W2.out.kept kp
      have b3 := B2.out.trans (kp.below B2.out.size (fun k h => by omega))
      generalize W2w.putObj wL.heap.size (.deferred none) = W3w at *
      rw [HRR.out]
      have r0 := w3.c0
      have r1 := w3.c1
      have r2 := w3.c2
      refine ⟨_, ?_, rfl, b3⟩
      simp [results, Tryz.results100, go_sem, r0, r1, r2]
  case stop =>
    rintro c0 W ⟨rfl, hsc, hbw⟩ hD
    have HSC := Lib.hid hsc
    have HBW := Lib.hid hbw
    have HD := Lib.hid hD
    obtain ⟨s, hs⟩ : ∃ s, lastR l0 = s := ⟨_, rfl⟩
    rw [hs] at HSC
    have HRR := Lib.hid hs
    clear hsc hbw hD hs
    obtain ⟨s0, s1, s2, g0, g1, g2⟩ := HSC.out
    have hmo : Tryz.prog.follows .mixedOrders = true := by kernel_rfl
    have W2 := Lib.hid (HSC.out.set3 s.t s.v s.g)
    have H2 : Hid ((((W.setCell ⟨w.heap.size, 0, none⟩ (.int .u64 s.t)).setCell ⟨w.heap.size, 1, none⟩ (.int .i64 s.v)).setCell ⟨w.heap.size + 1, 0, none⟩ (.int .i64 (s.g : Int))).drew.heap[wL.heap.size]? = some (.deferred (some []))) := Lib.hid (by
      have l := LL.out
      refine (Below.heap_setCell _ ⟨w.heap.size + 1, 0, none⟩ _ wL.heap.size (by show wL.heap.size ≠ w.heap.size + 1; omega)).trans ?_
      refine (Below.heap_setCell _ ⟨w.heap.size, 1, none⟩ _ wL.heap.size (by show wL.heap.size ≠ w.heap.size; omega)).trans ?_
      exact (Below.heap_setCell _ ⟨w.heap.size, 0, none⟩ _ wL.heap.size (by show wL.heap.size ≠ w.heap.size; omega)).trans HD.out)
    have B2 : Hid (Below w.heap.size w (((W.setCell ⟨w.heap.size, 0, none⟩ (.int .u64 s.t)).setCell ⟨w.heap.size, 1, none⟩ (.int .i64 s.v)).setCell ⟨w.heap.size + 1, 0, none⟩ (.int .i64 (s.g : Int))).drew) := Lib.hid (by
      have k : Kept W (((W.setCell ⟨w.heap.size, 0, none⟩ (.int .u64 s.t)).setCell ⟨w.heap.size, 1, none⟩ (.int .i64 s.v)).setCell ⟨w.heap.size + 1, 0, none⟩ (.int .i64 (s.g : Int))).drew (fun k => k = w.heap.size ∨ k = w.heap.size + 1) := by
        refine Kept.trans (b := _) ?_ (Kept.drew _ _)
        exact (((Kept.setCell W _ _).mono fun k _ e => .inl e).trans ((Kept.setCell _ _ _).mono fun k _ e => .inl e)).trans ((Kept.setCell _ _ _).mono fun k _ e => .inr e)
      exact HBW.out.trans (k.below HBW.out.size (fun k h => by omega)))
    gi_wp2_with fail
    gi_region_with_o (fail)
    all_goals
      gi_wp2_with fail
      generalize (((W.setCell ⟨w.heap.size, 0, none⟩ (.int .u64 s.t)).setCell ⟨w.heap.size, 1, none⟩ (.int .i64 s.v)).setCell ⟨w.heap.size + 1, 0, none⟩ (.int .i64 (s.g : Int))).drew = W2w at *
      refine ⟨by simp, .inl ⟨_, _, rfl, run_takeDeferred H2.out, ?_⟩⟩
      have kp : Kept W2w (W2w.putObj wL.heap.size (.deferred none)) (fun k => w.heap.size + 2 ≤ k) := (Kept.putObj _ _ _).mono fun k _ e => by have := LL.out; omega
      have w3 := W2.out.kept kp
      have b3 := B2.out.trans (kp.below B2.out.size (fun k h => by omega))
      generalize W2w.putObj wL.heap.size (.deferred none) = W3w at *
      rw [HRR.out]
      have r0 := w3.c0
      have r1 := w3.c1
      have r2 := w3.c2
      refine ⟨_, ?_, rfl, b3⟩
      simp [results, Tryz.results100, go_sem, r0, r1, r2]
end Go.Proofs.YtofhccpagnkalaaGreat

/- Contracts of the disk's Boot, Arm, Resize, Cut; no conditions but the ranges. -/
namespace Go.Proofs.YtofhccpagnkalaaGreat
open Go.RowKit Go.Maps Go.Proofs.Own

def bootD (D : DiskS) : DiskS := { D with down := false, armed := -1 }
def armD (D : DiskS) (n : Int) : DiskS × Nat := if D.down = true then (D, 50) else if n < 0 then (D, 2) else ({ D with armed := n }, 0)
def resizeD (D : DiskS) (n : Int) : DiskS × Nat := if D.down = true then (D, 50) else if n < 0 ∨ 1048576 < n then (D, 2) else ({ D with room := n }, 0)
theorem Kept.set3 (w : World) (db mb tb : Nat) (o : Nat) (v : Value) : Kept w (w.setCell ⟨db, o, none⟩ v) (Own3 db mb tb) := (Kept.setCell w _ v).mono fun _ _ e => .inl e

set_option maxHeartbeats 1000000 in
theorem dboot_any (db mb tb : Nat) (D : DiskS) (w : World) (h : DiskIs w db mb tb D) : Calls Tryz.prog 51 #[.pointer (some ⟨db, 0, none⟩)] w (OpPost db mb tb (bootD D, 0) w) := by
  have H := Lib.hid h
  have c2 := h.c2
  have c3 := h.c3
  have f2 := h.f2
  have f3 := h.f3
  have hl := h.lt
  clear h
  go_enter Tryz.func51, Tryz.ntmps51
  go_wp2_with fail
  refine (dnone db mb tb D _ H.out).mono ?_
  rintro e w1 ⟨rfl, rfl⟩
  go_wp2_with fail
  go_ret
  exact ⟨rfl, (H.out.setDown false).setArmed (-1), (Kept.set3 _ _ _ _ _ _).trans (Kept.set3 _ _ _ _ _ _)⟩
set_option maxHeartbeats 1000000 in
theorem darm_any (db mb tb : Nat) (D : DiskS) (n : Int) (w : World) (h : DiskIs w db mb tb D) : Calls Tryz.prog 62 #[.pointer (some ⟨db, 0, none⟩), .int .i64 n] w (OpPost db mb tb (armD D n) w) := by
  have H := Lib.hid h
  have c3 := h.c3
  have f3 := h.f3
  have hl := h.lt
  have HDN := Lib.hid (dup_any db mb tb D w h)
  clear h
  unfold armD
  by_cases hd : D.down = true
  · rw [if_pos hd]
    rw [if_pos hd] at HDN
    clear hd
    go_enter Tryz.func62, Tryz.ntmps62
    go_wp2_with fail
    refine HDN.out.mono ?_
    rintro e w1 ⟨rfl, rfl⟩
    go_wp2_with fail
    go_ret
    exact ⟨rfl, H.out, Kept.refl _ _⟩
  · rw [if_neg hd]
    rw [if_neg hd] at HDN
    clear hd
    by_cases hn : n < 0
    · rw [if_pos hn]
      go_enter Tryz.func62, Tryz.ntmps62
      go_wp2_with fail
      refine HDN.out.mono ?_
      rintro e w1 ⟨rfl, rfl⟩
      go_wp2_with fail
      go_ret
      exact ⟨rfl, H.out, Kept.refl _ _⟩
    · rw [if_neg hn]
      go_enter Tryz.func62, Tryz.ntmps62
      go_wp2_with fail
      refine HDN.out.mono ?_
      rintro e w1 ⟨rfl, rfl⟩
      go_wp2_with fail
      go_ret
      exact ⟨rfl, H.out.setArmed n, Kept.set3 _ _ _ _ _ _⟩
set_option maxHeartbeats 1000000 in
theorem dresize_any (db mb tb : Nat) (D : DiskS) (n : Int) (w : World) (h : DiskIs w db mb tb D) : Calls Tryz.prog 64 #[.pointer (some ⟨db, 0, none⟩), .int .i64 n] w (OpPost db mb tb (resizeD D n) w) := by
  have H := Lib.hid h
  have c1 := h.c1
  have f1 := h.f1
  have hl := h.lt
  have HDN := Lib.hid (dup_any db mb tb D w h)
  clear h
  unfold resizeD
  by_cases hd : D.down = true
  · rw [if_pos hd]
    rw [if_pos hd] at HDN
    clear hd
    go_enter Tryz.func64, Tryz.ntmps64
    go_wp2_with fail
    refine HDN.out.mono ?_
    rintro e w1 ⟨rfl, rfl⟩
    go_wp2_with fail
    go_ret
    exact ⟨rfl, H.out, Kept.refl _ _⟩
  · rw [if_neg hd]
    rw [if_neg hd] at HDN
    clear hd
    by_cases hn : n < 0 ∨ 1048576 < n
    · rw [if_pos hn]
      rcases hn with hn | hn
      · go_enter Tryz.func64, Tryz.ntmps64
        go_wp2_with fail
        refine HDN.out.mono ?_
        rintro e w1 ⟨rfl, rfl⟩
        go_wp2_with fail
        go_ret
        exact ⟨rfl, H.out, Kept.refl _ _⟩
      · have hn0 : ¬ n < 0 := by omega
        go_enter Tryz.func64, Tryz.ntmps64
        go_wp2_with fail
        refine HDN.out.mono ?_
        rintro e w1 ⟨rfl, rfl⟩
        go_wp2_with fail
        go_ret
        exact ⟨rfl, H.out, Kept.refl _ _⟩
    · rw [if_neg hn]
      have hn0 : ¬ n < 0 := by omega
      have hn1 : ¬ 1048576 < n := by omega
      clear hn
      go_enter Tryz.func64, Tryz.ntmps64
      go_wp2_with fail
      refine HDN.out.mono ?_
      rintro e w1 ⟨rfl, rfl⟩
      go_wp2_with fail
      go_ret
      exact ⟨rfl, H.out.setRoom n, Kept.set3 _ _ _ _ _ _⟩

def cutD (D : DiskS) (n : ByteArray) (k : Int) : DiskS × Nat :=
  match findFile n D.files with
  | some f => if D.down = true then (D, 50) else if k < 0 ∨ (f.all.length : Int) < k then (D, 2) else if D.armed = 0 then (stepD D, 50) else ({ stepD D with files := putFile ⟨f.name, f.all.take k.toNat, min f.kept k.toNat⟩ D.files }, 0)
  | none => (D, fileE D n)

theorem dcut_err (db mb tb : Nat) (D : DiskS) (n : ByteArray) (k : Int) (w : World) (h : DiskIs w db mb tb D) (hn : n.size ≤ maxLen) (he : fileE D n ≠ 0) :
    Calls Tryz.prog 101 #[.pointer (some ⟨db, 0, none⟩), .string n, .int .i64 k] w (OpPost db mb tb (D, fileE D n) w) := by
  have C := Lib.hid (dfile_err db mb tb D n w h hn he)
  have H := Lib.hid h
  obtain ⟨k, hk⟩ : ∃ k, fileE D n = k := ⟨_, rfl⟩
  have hkb : ((k : Int) != 0) = true := bne_iff_ne.2 (by omega)
  rw [hk] at C ⊢
  clear h hn he hk
  go_enter Tryz.func101, Tryz.ntmps101
  go_wp2_with fail
  refine C.out.mono ?_
  rintro e w1 ⟨rfl, hb1⟩
  have B1 := Lib.hid hb1
  have L1 := hb1.size
  clear hb1
  go_wp2_with fail
  go_ret
  have BF := B1.out.alloc L1 (.cells #[.slice none 0 0, .int .i64 0] 87)
  exact ⟨rfl, H.out.below BF, Kept.below3 BF⟩

set_option maxHeartbeats 2000000 in
set_option maxRecDepth 20000 in
theorem dcut_bad (db mb tb : Nat) (D : DiskS) (n : ByteArray) (k : Int) (f : FileS) (w : World) (h : DiskIs w db mb tb D) (hw : DWf D) (hd : D.down = false) (hn : n.size ≤ maxLen) (hf : findFile n D.files = some f) (hk : k < 0 ∨ (f.all.length : Int) < k) :
    Calls Tryz.prog 101 #[.pointer (some ⟨db, 0, none⟩), .string n, .int .i64 k] w (OpPost db mb tb (D, 2) w) := by
  have C := Lib.hid (dfile_yes db mb tb D n f w h hd hn hf)
  have H := Lib.hid h
  have HW := Lib.hid hw
  have HN := Lib.hid (keyOf_name hn)
  have HFN := Lib.hid (find_name hf)
  have HM3 := Lib.hid h.lt3
  have hl := h.lt
  have many := hw.many
  clear h hw hd hn hf
  go_enter Tryz.func101, Tryz.ntmps101
  go_wp2_with fail
  refine C.out.mono ?_
  rintro e w1 ⟨v, rfl, hfi, hb1⟩
  have HFI := Lib.hid hfi
  obtain ⟨a, c, rfl, _, _⟩ := hfi
  have B1 := Lib.hid hb1
  have L1 := hb1.size
  clear hb1
  have BF := Lib.hid (B1.out.alloc L1 (.cells #[.slice a f.all.length c, .int .i64 f.kept] 87))
  rcases hk with hk | hk
  · go_wp2_with fail
    go_ret
    exact ⟨rfl, H.out.below BF.out, Kept.below3 BF.out⟩
  · have hk0 : ¬ k < 0 := by omega
    go_wp2_with fail
    go_ret
    exact ⟨rfl, H.out.below BF.out, Kept.below3 BF.out⟩

set_option maxHeartbeats 2000000 in
set_option maxRecDepth 20000 in
theorem dcut_down (db mb tb : Nat) (D : DiskS) (n : ByteArray) (k : Int) (f : FileS) (w : World) (h : DiskIs w db mb tb D) (hw : DWf D) (hd : D.down = false) (hn : n.size ≤ maxLen) (hf : findFile n D.files = some f) (hk0 : 0 ≤ k) (hk1 : k ≤ (f.all.length : Int)) (ha : D.armed = 0) :
    Calls Tryz.prog 101 #[.pointer (some ⟨db, 0, none⟩), .string n, .int .i64 k] w (OpPost db mb tb (stepD D, 50) w) := by
  have HE : Hid (stepE D = 50) := Lib.hid (if_pos ha)
  have hkn : ¬ k < 0 := by omega
  have hkl : ¬ (f.all.length : Int) < k := by omega
  have C := Lib.hid (dfile_yes db mb tb D n f w h hd hn hf)
  have H := Lib.hid h
  have HW := Lib.hid hw
  have HN := Lib.hid (keyOf_name hn)
  have HFN := Lib.hid (find_name hf)
  have HM3 := Lib.hid h.lt3
  have hl := h.lt
  have many := hw.many
  clear h hw hd hn hf
  go_enter Tryz.func101, Tryz.ntmps101
  go_wp2_with fail
  refine C.out.mono ?_
  rintro e w1 ⟨v, rfl, hfi, hb1⟩
  have HFI := Lib.hid hfi
  obtain ⟨a, c, rfl, _, _⟩ := hfi
  have B1 := Lib.hid hb1
  have L1 := hb1.size
  clear hb1
  go_wp2_with fail
  generalize hW : World.alloc w1 _ = w2
  have B2 : Hid (Below w.heap.size w w2) := Lib.hid (by subst hW; exact B1.out.alloc L1 _)
  have B12 : Hid (Below w1.heap.size w1 w2) := Lib.hid (by subst hW; exact (Below.refl _ _).alloc (Nat.le_refl _) _)
  have X2 : Hid (w2.cell? ⟨w1.heap.size, 0, none⟩ = some (.slice a f.all.length c) ∧ w2.cell? ⟨w1.heap.size, 1, none⟩ = some (.int .i64 f.kept) ∧ w2.frozen? ⟨w1.heap.size, 0, none⟩ = false ∧ w2.frozen? ⟨w1.heap.size, 1, none⟩ = false ∧ w1.heap.size < w2.heap.size) := Lib.hid (by subst hW; exact ⟨by go_cell, by go_cell, by simp, by simp, by simp⟩)
  have D2 : Hid (DiskIs w2 db mb tb D) := Lib.hid (H.out.below B2.out)
  have NB : Hid (¬ Own3 db mb tb w1.heap.size) := Lib.hid fun e => by have := HM3.out _ e; omega
  clear hW
  refine (dstep_any db mb tb D _ D2.out HW.out).mono ?_
  rintro e w3 ⟨rfl, hd3, k3⟩
  rw [HE.out]
  have D3 := Lib.hid hd3
  have K3 := Lib.hid k3
  clear hd3 k3
  go_wp2_with fail
  go_ret
  exact ⟨rfl, D3.out, (Kept.below3 B2.out).trans K3.out⟩

set_option maxHeartbeats 2000000 in
set_option maxRecDepth 20000 in
theorem dcut_ok (db mb tb : Nat) (D : DiskS) (n : ByteArray) (k : Nat) (f : FileS) (w : World) (h : DiskIs w db mb tb D) (hw : DWf D) (hd : D.down = false) (hn : n.size ≤ maxLen) (hf : findFile n D.files = some f) (hk1 : k ≤ f.all.length) (ha : D.armed ≠ 0) :
    Calls Tryz.prog 101 #[.pointer (some ⟨db, 0, none⟩), .string n, .int .i64 (k : Int)] w (OpPost db mb tb ({ stepD D with files := putFile ⟨f.name, f.all.take k, min f.kept k⟩ D.files }, 0) w) := by
  have hkn : ¬ (k : Int) < 0 := by omega
  have hkl : ¬ (f.all.length : Int) < (k : Int) := by omega
  have HE : Hid (stepE D = 0) := Lib.hid (if_neg ha)
  have HK1 := Lib.hid hk1
  clear hk1
  have C := Lib.hid (dfile_yes db mb tb D n f w h hd hn hf)
  have H := Lib.hid h
  have HW := Lib.hid hw
  have HN := Lib.hid (keyOf_name hn)
  have HFN := Lib.hid (find_name hf)
  have HM3 := Lib.hid h.lt3
  have hl := h.lt
  have many := hw.many
  clear h hw hd hn hf
  go_enter Tryz.func101, Tryz.ntmps101
  go_wp2_with fail
  refine C.out.mono ?_
  rintro e w1 ⟨v, rfl, hfi, hb1⟩
  have HFI := Lib.hid hfi
  obtain ⟨a, c, rfl, _, _⟩ := hfi
  have B1 := Lib.hid hb1
  have L1 := hb1.size
  clear hb1
  go_wp2_with fail
  generalize hW : World.alloc w1 _ = w2
  have B2 : Hid (Below w.heap.size w w2) := Lib.hid (by subst hW; exact B1.out.alloc L1 _)
  have B12 : Hid (Below w1.heap.size w1 w2) := Lib.hid (by subst hW; exact (Below.refl _ _).alloc (Nat.le_refl _) _)
  have X2 : Hid (w2.cell? ⟨w1.heap.size, 0, none⟩ = some (.slice a f.all.length c) ∧ w2.cell? ⟨w1.heap.size, 1, none⟩ = some (.int .i64 f.kept) ∧ w2.frozen? ⟨w1.heap.size, 0, none⟩ = false ∧ w2.frozen? ⟨w1.heap.size, 1, none⟩ = false ∧ w1.heap.size < w2.heap.size) := Lib.hid (by subst hW; exact ⟨by go_cell, by go_cell, by simp, by simp, by simp⟩)
  have D2 : Hid (DiskIs w2 db mb tb D) := Lib.hid (H.out.below B2.out)
  have NB : Hid (¬ Own3 db mb tb w1.heap.size) := Lib.hid fun e => by have := HM3.out _ e; omega
  clear hW
  refine (dstep_any db mb tb D _ D2.out HW.out).mono ?_
  rintro e w3 ⟨rfl, hd3, k3⟩
  rw [HE.out]
  have D3 := Lib.hid hd3
  have K3 := Lib.hid k3
  clear hd3 k3
  have X3 : Hid (w3.cell? ⟨w1.heap.size, 0, none⟩ = some (.slice a f.all.length c) ∧ w3.cell? ⟨w1.heap.size, 1, none⟩ = some (.int .i64 f.kept) ∧ w3.frozen? ⟨w1.heap.size, 0, none⟩ = false ∧ w3.frozen? ⟨w1.heap.size, 1, none⟩ = false ∧ w1.heap.size < w3.heap.size) := Lib.hid ⟨K3.out.cell X2.out.1 NB.out, K3.out.cell X2.out.2.1 NB.out, (K3.out.frozen (a := ⟨w1.heap.size, 0, none⟩) X2.out.2.2.2.2 NB.out).trans X2.out.2.2.1, (K3.out.frozen (a := ⟨w1.heap.size, 1, none⟩) X2.out.2.2.2.2 NB.out).trans X2.out.2.2.2.1, Nat.lt_of_lt_of_le X2.out.2.2.2.2 K3.out.size⟩
  obtain ⟨x0, x1, y0, y1, L3⟩ := X3.out
  have FI3 := Lib.hid ((HFI.out.below B12.out).kept K3.out)
  obtain ⟨a', HB', HO', hcut⟩ := (show Bytes w3 (.slice a f.all.length c) f.all by obtain ⟨a2, c2, e1, e2, _⟩ := FI3.out; cases e1; exact e2).cut_hmo Tryz.u8s k HK1.out
  have FI4 : Hid (FileIs w3 db mb tb (.agg #[.slice a' k k, .int .i64 ((min f.kept k : Nat) : Int)]) ⟨f.name, f.all.take k, min f.kept k⟩) := Lib.hid (by
    obtain ⟨a2, c2, e1, e2, e3⟩ := FI3.out
    cases e1
    have hl : (f.all.take k).length = k := by rw [List.length_take]; have := HK1.out; omega
    refine ⟨a', k, by simp only [hl], by simp only [hl]; exact HB', ?_⟩
    rcases e3 with e3 | ⟨g, hg, hn⟩
    · exact .inl (by simp [e3])
    · exact .inr ⟨g, by simp only [hl]; rw [HO']; exact hg, hn⟩)
  have hmin : (if k < f.kept then (k : Int) else (f.kept : Int)) = ((min f.kept k : Nat) : Int) := by split <;> omega
  obtain ⟨mk, hmk⟩ : ∃ mk : Int, mk = ((min f.kept k : Nat) : Int) := ⟨_, rfl⟩
  rw [← hmk] at FI4 hmin
  have HMK := Lib.hid hmk
  clear hmk
  have XR : Hid (w3.cell? ⟨db, 0, none⟩ = some (.map (some mb)) ∧ w3.cell? ⟨w1.heap.size, 0, none⟩ = some (.slice a f.all.length c) ∧ w3.cell? ⟨w1.heap.size, 1, none⟩ = some (.int .i64 f.kept)) := Lib.hid ⟨D3.out.c0, X3.out.1, X3.out.2.1⟩
  obtain ⟨vals, hmap, hfs⟩ := D3.out.fs
  rw [stepD_files] at hmap hfs
  have MR := Lib.hid hmap
  have FS := Lib.hid hfs
  have HB2 := Lib.hid HB'
  have HO2 := Lib.hid HO'
  clear x0 x1 y0 y1 hmap hfs HB' HO'
  go_wp2_with fail
  refine region_start [0, 1, 3, 7, 0, 0, 32, 0, 0, 480, 0, 1024, 0, 7168, 16352, 32767] 0 (fun w' => w'.cell? ⟨db, 0, none⟩ = some (.map (some mb)) ∧ w'.cell? ⟨w1.heap.size, 0, none⟩ = some (.slice a f.all.length c) ∧ w'.cell? ⟨w1.heap.size, 1, none⟩ = some (.int .i64 f.kept)) (by kernel_rfl) ?_
  refine stage_heads [0, 1, 2, 3, 4, 5, 6, 7, 8, 9, 10, 11, 12, 13, 14] (by kernel_rfl) (L := #[true, true, true, true, true, true, true, true, true, true, true, true, true, true, true, false]) (by kernel_rfl) (f' := 1) rfl (fun _ _ _ _ h => h) (fun w o h => (((Stable.cell _ _).and ((Stable.cell _ _).and (Stable.cell _ _))).alloc h o)) (.inr XR.out) ?_
  simp only [List.flatMap_cons, List.flatMap_nil, List.drop_succ_cons, List.drop_zero, List.take_succ_cons, List.take_zero, List.cons_append, List.nil_append, List.append_nil]
  iterate 15 (first | (refine heads_load _ (by rfl) (fun w' hs => by obtain ⟨y0, y1, y2⟩ := hs; go_simp; try with_reducible rfl) rfl ?_; simp only [Act.put, List.setIfInBounds_toArray, List.set_cons_zero, List.set_cons_succ]) | (refine heads_pure _ (by rfl) (fun w' => by go_simp; try with_reducible rfl) ?_; simp only [Act.put, List.setIfInBounds_toArray, List.set_cons_zero, List.set_cons_succ]))
  refine heads_nil ?_
  refine stage_op 15 (by kernel_rfl) (L := #[true, true, true, true, true, true, true, true, true, true, true, true, true, true, true, true]) (by kernel_rfl) ?_
  simp only [List.drop_succ_cons, List.drop_zero, List.take_succ_cons, List.take_zero]
  refine wpList_mapUpdate_in _ rfl _ _ _ 81 rfl 9 87 law Tryz.underlying81 contR mb _ _ rfl (by first | exact MR.out | exact World.ownsMap.drew MR.out) (by unfold maxLen; omega) _ _ _ rfl rfl HN.out (.held (.agg #[.slice a' k k, .int .i64 mk])) [] (contR_mk _ _ _ _) ?_; intro w5 hown5 hturn5; have O5 := Lib.hid hown5; have T5 : Hid (w3.drew.mapTurned w5 mb) := Lib.hid hturn5; clear hown5 hturn5; go_wp2_with fail
  refine step_post nofun ?_
  refine stage_done (by kernel_rfl) ?_
  go_wp2_with fail
  go_ret
  refine ⟨rfl, ?_, ((Kept.below3 B2.out).trans K3.out).trans ((Kept.drew w3 _).trans (Kept.turned3 T5.out))⟩
  have DR : Below w3.heap.size w3 w3.drew := (Below.refl _ _).drew
  have e5 := O5.out
  rw [← HFN.out.1] at e5
  have e6 : (stepD D).files = D.files := stepD_files D
  have hp := DiskIs.put (f := ⟨f.name, f.all.take k, min f.kept k⟩) (v := .agg #[.slice a' k k, .int .i64 mk]) (D3.out.below DR) (by rw [e6]; exact fun g hg => (FS.out g hg).below DR) (by rw [e6]; exact e5) T5.out (FI4.out.below DR)
  rw [e6] at hp
  exact hp

theorem dcut_any (db mb tb : Nat) (D : DiskS) (n : ByteArray) (k : Int) (w : World) (h : DiskIs w db mb tb D) (hw : DWf D) (hn : n.size ≤ maxLen) :
    Calls Tryz.prog 101 #[.pointer (some ⟨db, 0, none⟩), .string n, .int .i64 k] w (OpPost db mb tb (cutD D n k) w) := by
  unfold cutD
  cases e : findFile n D.files with
  | none => exact dcut_err db mb tb D n k w h hn (fileE_none e)
  | some f =>
    simp only
    by_cases hd : D.down = true
    · rw [if_pos hd]
      have := dcut_err db mb tb D n k w h hn (by rw [fileE_some e, if_pos hd]; decide)
      rwa [fileE_some e, if_pos hd] at this
    · rw [if_neg hd]
      have hd' : D.down = false := by simpa using hd
      by_cases hk : k < 0 ∨ (f.all.length : Int) < k
      · rw [if_pos hk]; exact dcut_bad db mb tb D n k f w h hw hd' hn e hk
      · rw [if_neg hk]
        by_cases ha : D.armed = 0
        · rw [if_pos ha]; exact dcut_down db mb tb D n k f w h hw hd' hn e (by omega) (by omega) ha
        · rw [if_neg ha]
          obtain ⟨q, rfl⟩ := Int.eq_ofNat_of_zero_le (show 0 ≤ k by omega)
          exact dcut_ok db mb tb D n q f w h hw hd' hn e (by omega) ha
end Go.Proofs.YtofhccpagnkalaaGreat

/- Whether a state of the vow is sound, and whether one may follow another, in the program and in the document; no conditions. -/
namespace Go.Proofs.YtofhccpagnkalaaGreat
open Go.RowKit Go.Maps Go.Proofs.Own

def vSnd (t v : Int) : Bool := decide (t ≤ 1152921504606846976) && (decide (-1 ≤ v) && decide (v < 7))
def vMy (t v t' v' : Int) : Bool := vSnd t v && (vSnd t' v' && (if t' = t then decide (v' = v) || decide (v = -1) else decide (t < t')))

set_option maxHeartbeats 1000000 in
theorem vsound_any (t v : Int) (w : World) : Calls Tryz.prog 94 #[.agg #[.int .u64 t, .int .i64 v]] w fun e w' => e = .returned (.bool (vSnd t v)) ∧ Below w.heap.size w w' := by
  by_cases h1 : t ≤ 1152921504606846976 <;> by_cases h2 : -1 ≤ v <;> by_cases h3 : v < 7
  all_goals try (exfalso; omega)
  all_goals
    have HV : Hid (vSnd t v = _) := Lib.hid (by unfold vSnd; simp only [h1, h2, h3, decide_true, decide_false, Bool.and_true, Bool.and_false]; rfl)
    rw [HV.out]
    go_enter Tryz.func94, Tryz.ntmps94
    go_wp2_with fail
    go_ret
    exact ⟨rfl, (Below.refl _ _).alloc (Nat.le_refl _) _⟩
set_option maxHeartbeats 1000000 in
theorem vrsound_any (t v : Int) (w : World) : Calls Tryz.prog 104 #[.agg #[.int .u64 t, .int .i64 v]] w fun e w' => e = .returned (.bool (vSnd t v)) ∧ Below w.heap.size w w' := by
  by_cases h1 : t ≤ 1152921504606846976 <;> by_cases h2 : -1 ≤ v <;> by_cases h3 : v < 7
  all_goals try (exfalso; omega)
  all_goals
    have HV : Hid (vSnd t v = _) := Lib.hid (by unfold vSnd; simp only [h1, h2, h3, decide_true, decide_false, Bool.and_true, Bool.and_false]; rfl)
    have h4 : (v ≤ 6) = (v < 7) := by simp only [eq_iff_iff]; omega
    have h5 := h3
    rw [← h4] at h5
    clear h4
    rw [HV.out]
    go_enter Tryz.func104, Tryz.ntmps104
    go_wp2_with fail
    go_ret
    exact ⟨rfl, (Below.refl _ _).alloc (Nat.le_refl _) _⟩
set_option maxHeartbeats 2000000 in
theorem vmay_any (t v t' v' : Int) (w : World) : Calls Tryz.prog 95 #[.agg #[.int .u64 t, .int .i64 v], .agg #[.int .u64 t', .int .i64 v']] w fun e w' => e = .returned (.bool (vMy t v t' v')) ∧ Below w.heap.size w w' := by
  cases ha : vSnd t v
  · have HV : Hid (vMy t v t' v' = false) := Lib.hid (by unfold vMy; rw [ha]; rfl)
    rw [HV.out]
    have HA := Lib.hid ha
    clear ha
    go_enter Tryz.func95, Tryz.ntmps95
    go_wp2_with fail
    refine (vsound_any t v _).mono ?_
    rintro e w1 ⟨rfl, hb⟩
    have B1 : Hid (Below w.heap.size w w1) := Lib.hid ((((Below.refl _ _).alloc (Nat.le_refl _) _).alloc (by simp) _).trans (hb.mono (by simp; omega)))
    rw [HA.out]
    clear hb
    go_wp2_with fail
    go_ret
    exact ⟨rfl, B1.out⟩
  · have HA := Lib.hid ha
    cases hb : vSnd t' v'
    all_goals
      have HB := Lib.hid hb
      go_enter Tryz.func95, Tryz.ntmps95
      go_wp2_with fail
      refine (vsound_any t v _).mono ?_
      rintro e w1 ⟨rfl, hb1⟩
      have B1 : Hid (Below w.heap.size w w1) := Lib.hid ((((Below.refl _ _).alloc (Nat.le_refl _) _).alloc (by simp) _).trans (hb1.mono (by simp; omega)))
      have X1 : Hid ((w1.cell? ⟨w.heap.size, 0, none⟩ = some (.int .u64 t) ∧ w1.cell? ⟨w.heap.size, 1, none⟩ = some (.int .i64 v)) ∧ w1.cell? ⟨w.heap.size + 1, 0, none⟩ = some (.int .u64 t') ∧ w1.cell? ⟨w.heap.size + 1, 1, none⟩ = some (.int .i64 v')) := Lib.hid
        ⟨⟨(hb1.cell (p := ⟨w.heap.size, 0, none⟩) (by simp; omega)).trans (by go_cell), (hb1.cell (p := ⟨w.heap.size, 1, none⟩) (by simp; omega)).trans (by go_cell)⟩,
          (hb1.cell (p := ⟨w.heap.size + 1, 0, none⟩) (by simp)).trans (by go_cell), (hb1.cell (p := ⟨w.heap.size + 1, 1, none⟩) (by simp)).trans (by go_cell)⟩
      rw [HA.out]
      clear hb1
      obtain ⟨⟨x0, x1⟩, x2, x3⟩ := X1.out
      go_wp2_with fail
      refine (vsound_any t' v' w1).mono ?_
      rintro e w2 ⟨rfl, hb2⟩
      have B2 : Hid (Below w.heap.size w w2) := Lib.hid (B1.out.trans (hb2.mono B1.out.size))
      have X2 : Hid ((w2.cell? ⟨w.heap.size, 0, none⟩ = some (.int .u64 t) ∧ w2.cell? ⟨w.heap.size, 1, none⟩ = some (.int .i64 v)) ∧ w2.cell? ⟨w.heap.size + 1, 0, none⟩ = some (.int .u64 t') ∧ w2.cell? ⟨w.heap.size + 1, 1, none⟩ = some (.int .i64 v')) := Lib.hid
        ⟨⟨(hb2.cell (p := ⟨w.heap.size, 0, none⟩) (World.block_lt_of_cell? _ _ x0)).trans x0, (hb2.cell (p := ⟨w.heap.size, 1, none⟩) (World.block_lt_of_cell? _ _ x1)).trans x1⟩,
          (hb2.cell (p := ⟨w.heap.size + 1, 0, none⟩) (World.block_lt_of_cell? _ _ x2)).trans x2, (hb2.cell (p := ⟨w.heap.size + 1, 1, none⟩) (World.block_lt_of_cell? _ _ x3)).trans x3⟩
      rw [HB.out]
      clear hb2 x0 x1 x2 x3 hb
    · have HV : Hid (vMy t v t' v' = false) := Lib.hid (by unfold vMy; rw [HA.out, HB.out]; rfl)
      clear ha
      go_wp2_with fail
      go_ret
      exact ⟨by simp [HV.out], B2.out⟩
    · have HV : Hid (vMy t v t' v' = if t' = t then decide (v' = v) || decide (v = -1) else decide (t < t')) := Lib.hid (by unfold vMy; rw [HA.out, HB.out]; rfl)
      clear ha
      obtain ⟨⟨x0, x1⟩, x2, x3⟩ := X2.out
      by_cases h : t' = t
      · subst h
        by_cases h5 : v' = v
        · subst h5
          go_wp2_with fail
          go_ret
          exact ⟨by rw [HV.out]; simp, B2.out⟩
        · by_cases h6 : v = -1
          · subst h6
            have h7 : (v' == -1) = false := by simpa using h5
            go_wp2_with fail
            go_ret
            exact ⟨by rw [HV.out]; simp, B2.out⟩
          · have h7 : (v' == v) = false := by simpa using h5
            have h8 : (v == -1) = false := by simpa using h6
            go_wp2_with fail
            go_ret
            exact ⟨by rw [HV.out]; simp [h5, h6], B2.out⟩
      · have h7 : (t' == t) = false := by simpa using h
        by_cases h5 : t < t'
        all_goals
          go_wp2_with fail
          go_ret
          exact ⟨by rw [HV.out]; simp [h, h5], B2.out⟩
set_option maxHeartbeats 2000000 in
theorem vrmay_any (t v t' v' : Int) (w : World) : Calls Tryz.prog 105 #[.agg #[.int .u64 t, .int .i64 v], .agg #[.int .u64 t', .int .i64 v']] w fun e w' => e = .returned (.bool (vMy t v t' v')) ∧ Below w.heap.size w w' := by
  cases ha : vSnd t v
  · have HV : Hid (vMy t v t' v' = false) := Lib.hid (by unfold vMy; rw [ha]; rfl)
    rw [HV.out]
    have HA := Lib.hid ha
    clear ha
    go_enter Tryz.func105, Tryz.ntmps105
    go_wp2_with fail
    refine (vrsound_any t v _).mono ?_
    rintro e w1 ⟨rfl, hb⟩
    have B1 : Hid (Below w.heap.size w w1) := Lib.hid ((((Below.refl _ _).alloc (Nat.le_refl _) _).alloc (by simp) _).trans (hb.mono (by simp; omega)))
    rw [HA.out]
    clear hb
    go_wp2_with fail
    go_ret
    exact ⟨rfl, B1.out⟩
  · have HA := Lib.hid ha
    cases hb : vSnd t' v'
    all_goals
      have HB := Lib.hid hb
      go_enter Tryz.func105, Tryz.ntmps105
      go_wp2_with fail
      refine (vrsound_any t v _).mono ?_
      rintro e w1 ⟨rfl, hb1⟩
      have B1 : Hid (Below w.heap.size w w1) := Lib.hid ((((Below.refl _ _).alloc (Nat.le_refl _) _).alloc (by simp) _).trans (hb1.mono (by simp; omega)))
      have X1 : Hid ((w1.cell? ⟨w.heap.size, 0, none⟩ = some (.int .u64 t) ∧ w1.cell? ⟨w.heap.size, 1, none⟩ = some (.int .i64 v)) ∧ w1.cell? ⟨w.heap.size + 1, 0, none⟩ = some (.int .u64 t') ∧ w1.cell? ⟨w.heap.size + 1, 1, none⟩ = some (.int .i64 v')) := Lib.hid
        ⟨⟨(hb1.cell (p := ⟨w.heap.size, 0, none⟩) (by simp; omega)).trans (by go_cell), (hb1.cell (p := ⟨w.heap.size, 1, none⟩) (by simp; omega)).trans (by go_cell)⟩,
          (hb1.cell (p := ⟨w.heap.size + 1, 0, none⟩) (by simp)).trans (by go_cell), (hb1.cell (p := ⟨w.heap.size + 1, 1, none⟩) (by simp)).trans (by go_cell)⟩
      rw [HA.out]
      clear hb1
      obtain ⟨⟨x0, x1⟩, x2, x3⟩ := X1.out
      go_wp2_with fail
      refine (vrsound_any t' v' w1).mono ?_
      rintro e w2 ⟨rfl, hb2⟩
      have B2 : Hid (Below w.heap.size w w2) := Lib.hid (B1.out.trans (hb2.mono B1.out.size))
      have X2 : Hid ((w2.cell? ⟨w.heap.size, 0, none⟩ = some (.int .u64 t) ∧ w2.cell? ⟨w.heap.size, 1, none⟩ = some (.int .i64 v)) ∧ w2.cell? ⟨w.heap.size + 1, 0, none⟩ = some (.int .u64 t') ∧ w2.cell? ⟨w.heap.size + 1, 1, none⟩ = some (.int .i64 v')) := Lib.hid
        ⟨⟨(hb2.cell (p := ⟨w.heap.size, 0, none⟩) (World.block_lt_of_cell? _ _ x0)).trans x0, (hb2.cell (p := ⟨w.heap.size, 1, none⟩) (World.block_lt_of_cell? _ _ x1)).trans x1⟩,
          (hb2.cell (p := ⟨w.heap.size + 1, 0, none⟩) (World.block_lt_of_cell? _ _ x2)).trans x2, (hb2.cell (p := ⟨w.heap.size + 1, 1, none⟩) (World.block_lt_of_cell? _ _ x3)).trans x3⟩
      rw [HB.out]
      clear hb2 x0 x1 x2 x3 hb
    · have HV : Hid (vMy t v t' v' = false) := Lib.hid (by unfold vMy; rw [HA.out, HB.out]; rfl)
      clear ha
      go_wp2_with fail
      go_ret
      exact ⟨by simp [HV.out], B2.out⟩
    · have HV : Hid (vMy t v t' v' = if t' = t then decide (v' = v) || decide (v = -1) else decide (t < t')) := Lib.hid (by unfold vMy; rw [HA.out, HB.out]; rfl)
      clear ha
      obtain ⟨⟨x0, x1⟩, x2, x3⟩ := X2.out
      by_cases h : t' = t
      · subst h
        by_cases h5 : v' = v
        · subst h5
          go_wp2_with fail
          go_ret
          exact ⟨by rw [HV.out]; simp, B2.out⟩
        · by_cases h6 : v = -1
          · subst h6
            have h7 : (v' == -1) = false := by simpa using h5
            go_wp2_with fail
            go_ret
            exact ⟨by rw [HV.out]; simp, B2.out⟩
          · have h7 : (v' == v) = false := by simpa using h5
            have h8 : (v == -1) = false := by simpa using h6
            go_wp2_with fail
            go_ret
            exact ⟨by rw [HV.out]; simp [h5, h6], B2.out⟩
      · have h7 : (t' == t) = false := by simpa using h
        by_cases h5 : t < t'
        all_goals
          go_wp2_with fail
          go_ret
          exact ⟨by rw [HV.out]; simp [h, h5], B2.out⟩
end Go.Proofs.YtofhccpagnkalaaGreat

/- Contracts of the vow: a state's frame, a file that goes, the book's none and State; no conditions but the ranges. -/
namespace Go.Proofs.YtofhccpagnkalaaGreat
open Go.RowKit Go.Maps Go.Proofs.Own

/-- The names 'vow', 'vow.new'. -/
abbrev nVow : ByteArray := ⟨#[118, 111, 119]⟩
abbrev nVowN : ByteArray := ⟨#[118, 111, 119, 46, 110, 101, 119]⟩
theorem Reads.two (w : World) (q : IntKind) (x y : Int) (t : TypeId) : Reads (w.alloc (.cells #[.int q x, .int q y] t)) q (.slice (some ⟨w.heap.size, 0, none⟩) 2 2) [x, y] :=
  (Owns.lit (zs := [x, y]) (base := 0) (heap_alloc_new _ _) (Nat.zero_le _) (by simp)).reads

set_option maxHeartbeats 1600000 in
set_option maxRecDepth 20000 in
theorem vbytes_any (t m : Nat) (w : World) (ht : (t : Int) ≤ 1152921504606846976) (hm : (m : Int) ≤ 7) :
    Calls Tryz.prog 97 #[.agg #[.int .u64 t, .int .i64 ((m : Int) - 1)]] w fun e w' => ∃ v', e = .returned v' ∧ Bytes w' v' (frP 3 (numsW [t, m])) ∧ Below w.heap.size w w' ∧ ∀ g, v'.ownBlock = some g → w.heap.size ≤ g := by
  have HT : Hid (∀ x ∈ [t, m], (x : Int) < 18446744073709551616) := Lib.hid (by
    intro x hx
    simp only [List.mem_cons, List.not_mem_nil, or_false] at hx
    rcases hx with rfl | rfl <;> omega)
  have HLN := Lib.hid (numsW_len [t, m] HT.out)
  have HLT := Lib.hid (numsW_lt [t, m] HT.out)
  go_enter Tryz.func97, Tryz.ntmps97
  go_wp2_with fail
  have W1 : Hid (∀ o : Obj, WrIs (((w.alloc (.cells #[.int .u64 t, .int .i64 ((m : Int) - 1)] 59)).alloc (.cells #[.slice none 0 0] 186)).alloc o) (w.heap.size + 1) (.slice none 0 0) []) := Lib.hid fun o => by
    have h := (WrIs.new (w.alloc (.cells #[.int .u64 t, .int .i64 ((m : Int) - 1)] 59))).below ((Below.refl _ _).alloc (Nat.le_refl _) o)
    simpa using h
  have X2 : Hid (∀ x y : Int, Reads (((w.alloc (.cells #[.int .u64 t, .int .i64 ((m : Int) - 1)] 59)).alloc (.cells #[.slice none 0 0] 186)).alloc (.cells #[.int .u64 x, .int .u64 y] 27)) .u64 (.slice (some ⟨w.heap.size + 1 + 1, 0, none⟩) 2 2) [x, y]) := Lib.hid fun x y => by
    have h := Reads.two ((w.alloc (.cells #[.int .u64 t, .int .i64 ((m : Int) - 1)] 59)).alloc (.cells #[.slice none 0 0] 186)) .u64 x y 27
    simpa using h
  refine (wnum_any (w.heap.size + 1) _ _ [] [t, m] _ (W1.out _) (X2.out _ _) HT.out (by
    intro b hb
    simp only [Value.ownBlock] at hb
    obtain rfl := Option.some.inj hb
    exact ⟨by omega, by simp [Value.ownBlock]⟩) (by simp)).mono ?_
  rintro e w2 ⟨rfl, v2, hw2, hg2⟩
  have B2 : Hid (Below w.heap.size w w2) := Lib.hid (by
    have h := hg2.below (W1.out _)
    exact (((Below.refl _ _).alloc (Nat.le_refl _) _).alloc (by simp) _).alloc (by simp; omega) _ |>.trans (h.mono (by omega)))
  have W2 : Hid (WrIs w2 (w.heap.size + 1) v2 (numsW [t, m])) := Lib.hid (by simpa using hw2)
  clear hw2 hg2 W1 X2
  generalize hL : numsW [t, m] = L at *
  go_wp2_with fail
  refine (wbytes_any _ v2 L w2 W2.out (by have := HLN.out; simp at this; omega) HLT.out).mono ?_
  rintro e w5 ⟨v5, rfl, hB5, hb5⟩
  have HB5 := Lib.hid hB5
  have B5 : Hid (Below w.heap.size w w5) := Lib.hid (B2.out.trans (hb5.mono B2.out.size))
  clear hB5 hb5
  go_wp2_with fail
  refine (wrap_any 3 v5 L w5 HB5.out (by decide) (by decide) (by have := HLN.out; simp at this; omega)).mono ?_
  rintro e w6 ⟨v6, rfl, hB6, hb6, ho6⟩
  have HO6 : Hid (∀ g, v6.ownBlock = some g → w.heap.size ≤ g) := Lib.hid fun g hg => Nat.le_trans B5.out.size (ho6 g hg)
  have HB6 := Lib.hid hB6
  have B6 : Hid (Below w.heap.size w w6) := Lib.hid (B5.out.trans (hb6.mono B5.out.size))
  clear hB6 hb6 ho6
  go_wp2_with fail
  go_ret
  exact ⟨v6, rfl, by rw [hL]; exact HB6.out, B6.out, HO6.out⟩

def vgoneD (D : DiskS) (n : ByteArray) : DiskS × Nat := ((removeD D n).1, if (removeD D n).2 = 31 then 0 else (removeD D n).2)
set_option maxHeartbeats 1000000 in
theorem vgone_any (db mb tb : Nat) (D : DiskS) (n : ByteArray) (w : World) (hd : DiskIs w db mb tb D) (hw : DGood D) (hn : n.size ≤ maxLen) :
    Calls Tryz.prog 52 #[.pointer (some ⟨db, 0, none⟩), .string n] w (OpPost db mb tb (vgoneD D n) w) := by
  have HD := Lib.hid hd
  have HW := Lib.hid hw
  have HN := Lib.hid hn
  clear hd hw hn
  unfold vgoneD
  by_cases hk : (removeD D n).2 = 31
  all_goals
    have HK := Lib.hid hk
    first | rw [if_pos hk] | rw [if_neg hk]
    clear hk
    go_enter Tryz.func52, Tryz.ntmps52
    go_wp2_with fail
    refine (dremove_any db mb tb D n w HD.out HW.out.wf HN.out).mono ?_
    rintro e w1 ⟨rfl, hd1, hk1⟩
    have D1 := Lib.hid hd1
    have K1 := Lib.hid hk1
    clear hd1 hk1
    generalize (removeD D n).1 = D' at *
    generalize (removeD D n).2 = k at *
  · have hk := HK.out
    subst hk
    go_wp2_with fail
    go_ret
    exact ⟨rfl, D1.out, K1.out⟩
  · have hki : ((k : Int) != 31) = true := by have := HK.out; simp; omega
    go_wp2_with fail
    go_ret
    exact ⟨rfl, D1.out, K1.out⟩
theorem vgoneD_good {D : DiskS} (n : ByteArray) (h : DGood D) (hs : D.steps + 1 ≤ 1000000000) : DGood (vgoneD D n).1 ∧ (vgoneD D n).1.steps ≤ D.steps + 1 := h.remove n hs

/-- Block bb is the book of the disk at db, its state t, v. -/
structure BookIs (w : World) (bb db : Nat) (t v : Int) : Prop where
  c0 : w.cell? ⟨bb, 0, none⟩ = some (.pointer (some ⟨db, 0, none⟩))
  c1 : w.cell? ⟨bb, 1, none⟩ = some (.int .u64 t)
  c2 : w.cell? ⟨bb, 2, none⟩ = some (.int .i64 v)
  f1 : w.frozen? ⟨bb, 1, none⟩ = false
  f2 : w.frozen? ⟨bb, 2, none⟩ = false
theorem BookIs.lt {w : World} {bb db : Nat} {t v : Int} (h : BookIs w bb db t v) : bb < w.heap.size := World.block_lt_of_cell? _ _ h.c0
theorem BookIs.kept {w w' : World} {bb db : Nat} {t v : Int} {S : Nat → Prop} (h : BookIs w bb db t v) (hk : Kept w w' S) (hs : ¬ S bb) : BookIs w' bb db t v :=
  ⟨hk.cell h.c0 hs, hk.cell h.c1 hs, hk.cell h.c2 hs, (hk.frozen (a := ⟨bb, 1, none⟩) h.lt hs).trans h.f1, (hk.frozen (a := ⟨bb, 2, none⟩) h.lt hs).trans h.f2⟩
theorem BookIs.below {w w' : World} {bb db : Nat} {t v : Int} (h : BookIs w bb db t v) (hb : Below w.heap.size w w') : BookIs w' bb db t v :=
  h.kept (Kept.of_below hb (S := fun _ => False) fun k h1 h2 => by omega) fun h => h

set_option maxHeartbeats 1000000 in
theorem vnone (bb db : Nat) (t v : Int) (w : World) (h : BookIs w bb db t v) : Calls Tryz.prog 58 #[.pointer (some ⟨bb, 0, none⟩)] w fun e w' => e = .returned (.bool false) ∧ w = w' := by
  have c0 := h.c0
  clear h
  go_enter Tryz.func58, Tryz.ntmps58
  go_wp2_with fail
  go_ret
  exact ⟨rfl, rfl⟩
set_option maxHeartbeats 1000000 in
theorem vnone_nil (w : World) : Calls Tryz.prog 58 #[.pointer none] w fun e w' => e = .returned (.bool true) ∧ w = w' := by
  go_enter Tryz.func58, Tryz.ntmps58
  go_wp2_with fail
  go_ret
  exact ⟨rfl, rfl⟩
set_option maxHeartbeats 1000000 in
theorem vnone_no (bb : Nat) (w : World) (c0 : w.cell? ⟨bb, 0, none⟩ = some (.pointer none)) : Calls Tryz.prog 58 #[.pointer (some ⟨bb, 0, none⟩)] w fun e w' => e = .returned (.bool true) ∧ w = w' := by
  go_enter Tryz.func58, Tryz.ntmps58
  go_wp2_with fail
  go_ret
  exact ⟨rfl, rfl⟩

set_option maxHeartbeats 1000000 in
theorem vstate_any (bb db : Nat) (t v : Int) (w : World) (h : BookIs w bb db t v) : Calls Tryz.prog 21 #[.pointer (some ⟨bb, 0, none⟩)] w fun e w' => e = .returned (.agg #[.int .u64 t, .int .i64 v]) ∧ Below w.heap.size w w' := by
  have H := Lib.hid h
  have hlt := h.lt
  clear h
  go_enter Tryz.func21, Tryz.ntmps21
  go_wp2_with fail
  have BA : Hid (Below w.heap.size w (w.alloc (.cells #[.int .u64 0, .int .i64 0] 59))) := Lib.hid ((Below.refl _ _).alloc (Nat.le_refl _) _)
  have C0 : Hid ((w.alloc (.cells #[.int .u64 0, .int .i64 0] 59)).cell? ⟨w.heap.size, 0, none⟩ = some (.int .u64 0) ∧ (w.alloc (.cells #[.int .u64 0, .int .i64 0] 59)).cell? ⟨w.heap.size, 1, none⟩ = some (.int .i64 0)) := Lib.hid ⟨by go_cell, by go_cell⟩
  have F0 : Hid ((w.alloc (.cells #[.int .u64 0, .int .i64 0] 59)).frozen? ⟨w.heap.size, 0, none⟩ = false ∧ (w.alloc (.cells #[.int .u64 0, .int .i64 0] 59)).frozen? ⟨w.heap.size, 1, none⟩ = false) := Lib.hid ⟨by simp, by simp⟩
  generalize World.alloc w _ = w1 at *
  have H1 := Lib.hid (H.out.below BA.out)
  refine (vnone bb db t v w1 H1.out).mono ?_
  rintro e w1' ⟨rfl, rfl⟩
  obtain ⟨b0, b1, b2, _, _⟩ := H1.out
  obtain ⟨k0, k1⟩ := C0.out
  obtain ⟨g0, g1⟩ := F0.out
  go_wp2_with fail
  have y0 : ((w1.setCell ⟨w.heap.size, 0, none⟩ (.int .u64 t)).setCell ⟨w.heap.size, 1, none⟩ (.int .i64 v)).cell? ⟨w.heap.size, 0, none⟩ = some (.int .u64 t) := by
    rw [World.cell?_setCell_other _ _ _ _ (by simp)]
    exact World.cell?_setCell_same _ _ _ k0
  have y1 : ((w1.setCell ⟨w.heap.size, 0, none⟩ (.int .u64 t)).setCell ⟨w.heap.size, 1, none⟩ (.int .i64 v)).cell? ⟨w.heap.size, 1, none⟩ = some (.int .i64 v) :=
    World.cell?_setCell_same _ _ _ (by rw [World.cell?_setCell_other _ _ _ _ (by simp)]; exact k1)
  refine bodyPost_ret (v := .agg #[.int .u64 t, .int .i64 v]) (by simp [results, Tryz.results21, go_sem, y0, y1]) rfl ?_
  exact ⟨rfl, BA.out.trans ((((Kept.setCell w1 ⟨w.heap.size, 0, none⟩ _).trans (Kept.setCell _ ⟨w.heap.size, 1, none⟩ _))).below BA.out.size (fun k h => by show w.heap.size ≤ k; simp only at h; omega))⟩
set_option maxHeartbeats 1000000 in
/-- A book that is none: its State. -/
theorem vstate_no (p : Option Addr) (w : World) (hn : ∀ w1, Below w.heap.size w w1 → Calls Tryz.prog 58 #[.pointer p] w1 fun e w' => e = .returned (.bool true) ∧ w1 = w') : Calls Tryz.prog 21 #[.pointer p] w fun e w' => e = .returned (.agg #[.int .u64 0, .int .i64 (-1)]) ∧ Below w.heap.size w w' := by
  have HN := Lib.hid hn
  clear hn
  go_enter Tryz.func21, Tryz.ntmps21
  go_wp2_with fail
  have BA : Hid (Below w.heap.size w (w.alloc (.cells #[.int .u64 0, .int .i64 0] 59))) := Lib.hid ((Below.refl _ _).alloc (Nat.le_refl _) _)
  have C0 : Hid ((w.alloc (.cells #[.int .u64 0, .int .i64 0] 59)).cell? ⟨w.heap.size, 0, none⟩ = some (.int .u64 0) ∧ (w.alloc (.cells #[.int .u64 0, .int .i64 0] 59)).cell? ⟨w.heap.size, 1, none⟩ = some (.int .i64 0)) := Lib.hid ⟨by go_cell, by go_cell⟩
  have F0 : Hid ((w.alloc (.cells #[.int .u64 0, .int .i64 0] 59)).frozen? ⟨w.heap.size, 0, none⟩ = false ∧ (w.alloc (.cells #[.int .u64 0, .int .i64 0] 59)).frozen? ⟨w.heap.size, 1, none⟩ = false) := Lib.hid ⟨by simp, by simp⟩
  generalize World.alloc w _ = w1 at *
  refine (HN.out w1 BA.out).mono ?_
  rintro e w1' ⟨rfl, rfl⟩
  obtain ⟨k0, k1⟩ := C0.out
  obtain ⟨g0, g1⟩ := F0.out
  go_wp2_with fail
  have y0 : ((w1.setCell ⟨w.heap.size, 0, none⟩ (.int .u64 0)).setCell ⟨w.heap.size, 1, none⟩ (.int .i64 (-1))).cell? ⟨w.heap.size, 0, none⟩ = some (.int .u64 0) := by
    rw [World.cell?_setCell_other _ _ _ _ (by simp)]
    exact World.cell?_setCell_same _ _ _ k0
  have y1 : ((w1.setCell ⟨w.heap.size, 0, none⟩ (.int .u64 0)).setCell ⟨w.heap.size, 1, none⟩ (.int .i64 (-1))).cell? ⟨w.heap.size, 1, none⟩ = some (.int .i64 (-1)) :=
    World.cell?_setCell_same _ _ _ (by rw [World.cell?_setCell_other _ _ _ _ (by simp)]; exact k1)
  refine bodyPost_ret (v := .agg #[.int .u64 0, .int .i64 (-1)]) (by simp [results, Tryz.results21, go_sem, y0, y1]) rfl ?_
  exact ⟨rfl, BA.out.trans ((((Kept.setCell w1 ⟨w.heap.size, 0, none⟩ _).trans (Kept.setCell _ ⟨w.heap.size, 1, none⟩ _))).below BA.out.size (fun k h => by show w.heap.size ≤ k; simp only at h; omega))⟩
set_option maxHeartbeats 1000000 in
/-- A book that is none takes nothing. -/
theorem vkeep_no (p : Option Addr) (t v : Int) (w : World) (hn : ∀ w1, Below w.heap.size w w1 → Calls Tryz.prog 58 #[.pointer p] w1 fun e w' => e = .returned (.bool true) ∧ w1 = w') : Calls Tryz.prog 49 #[.pointer p, .agg #[.int .u64 t, .int .i64 v]] w fun e w' => e = .returned (.int .i64 1) ∧ Below w.heap.size w w' := by
  have HN := Lib.hid hn
  clear hn
  go_enter Tryz.func49, Tryz.ntmps49
  go_wp2_with fail
  have BA : Hid (Below w.heap.size w (w.alloc (.cells #[.int .u64 t, .int .i64 v] 59))) := Lib.hid ((Below.refl _ _).alloc (Nat.le_refl _) _)
  refine (HN.out _ BA.out).mono ?_
  rintro e w1' ⟨rfl, rfl⟩
  go_wp2_with fail
  go_ret
  exact ⟨rfl, BA.out⟩
end Go.Proofs.YtofhccpagnkalaaGreat

/- Contracts of the vow's settle and Open; no conditions but the ranges. -/
namespace Go.Proofs.YtofhccpagnkalaaGreat
open Go.RowKit Go.Maps Go.Proofs.Own

/-- Block b is a state's two cells. -/
structure SC (W : World) (b : Nat) (t v : Int) : Prop where
  c0 : W.cell? ⟨b, 0, none⟩ = some (.int .u64 t)
  c1 : W.cell? ⟨b, 1, none⟩ = some (.int .i64 v)
  f0 : W.frozen? ⟨b, 0, none⟩ = false
  f1 : W.frozen? ⟨b, 1, none⟩ = false
theorem SC.lt {W : World} {b : Nat} {t v : Int} (h : SC W b t v) : b < W.heap.size := World.block_lt_of_cell? _ _ h.c0
theorem SC.kept {W W' : World} {b : Nat} {t v : Int} {S : Nat → Prop} (h : SC W b t v) (hk : Kept W W' S) (hs : ¬ S b) : SC W' b t v :=
  ⟨hk.cell h.c0 hs, hk.cell h.c1 hs, (hk.frozen (a := ⟨b, 0, none⟩) h.lt hs).trans h.f0, (hk.frozen (a := ⟨b, 1, none⟩) h.lt hs).trans h.f1⟩
theorem SC.below {W W' : World} {b : Nat} {t v : Int} (h : SC W b t v) (hb : Below W.heap.size W W') : SC W' b t v :=
  h.kept (Kept.of_below hb (S := fun _ => False) fun k h1 h2 => by omega) fun h => h
theorem SC.box (w : World) (t v : Int) : SC (w.alloc (.cells #[.int .u64 t, .int .i64 v] 59)) w.heap.size t v := ⟨by go_cell, by go_cell, by simp, by simp⟩
theorem SC.set {W : World} {b : Nat} {t v : Int} (h : SC W b t v) (t' v' : Int) : SC ((W.setCell ⟨b, 0, none⟩ (.int .u64 t')).setCell ⟨b, 1, none⟩ (.int .i64 v')) b t' v' := by
  refine ⟨?_, ?_, ?_, ?_⟩
  · rw [World.cell?_setCell_other _ _ _ _ (by simp)]
    exact World.cell?_setCell_same _ _ _ h.c0
  · exact World.cell?_setCell_same _ _ _ (by rw [World.cell?_setCell_other _ _ _ _ (by simp)]; exact h.c1)
  · rw [World.frozen?_setCell, World.frozen?_setCell]; exact h.f0
  · rw [World.frozen?_setCell, World.frozen?_setCell]; exact h.f1
theorem Kept.set2 (W : World) (b : Nat) (x y : Value) : Kept W ((W.setCell ⟨b, 0, none⟩ x).setCell ⟨b, 1, none⟩ y) (fun k => k = b) := (Kept.setCell W ⟨b, 0, none⟩ x).trans (Kept.setCell _ ⟨b, 1, none⟩ y)
theorem DiskIs.sc {W : World} {db mb tb b : Nat} {D : DiskS} {t v : Int} (h : DiskIs W db mb tb D) (s : SC W b t v) (hn : ¬ Own3 db mb tb b) (t' v' : Int) : DiskIs ((W.setCell ⟨b, 0, none⟩ (.int .u64 t')).setCell ⟨b, 1, none⟩ (.int .i64 v')) db mb tb D :=
  (h.setOther (p := ⟨b, 0, none⟩) _ hn (fun x e => by rw [s.c0] at e; cases e)).setOther (p := ⟨b, 1, none⟩) _ hn (fun x e => by rw [World.cell?_setCell_other _ _ _ _ (by simp), s.c1] at e; cases e)

theorem lastF_le : ∀ n l (s : LastS), (lastF n l s).g ≤ s.g + l.length
  | 0, _, s => Nat.le_add_right _ _
  | n + 1, l, s => by
    unfold lastF
    split
    · rename_i h
      have h1 := lastF_le n (frNx l) ⟨vT l, (vV l : Int) - 1, s.g + (frBody l).length + 8⟩
      have h2 := (frNx_len h.1).2.2
      simp only at h1
      omega
    · exact Nat.le_add_right _ _
theorem lastR_le (l : List Nat) : (lastR l).g ≤ l.length := by
  have := lastF_le l.length l ⟨0, -1, 0⟩
  unfold lastR
  simpa using this
theorem DGood.cut {D : DiskS} (h : DGood D) (n : ByteArray) (k : Int) (hs : D.steps + 1 ≤ 1000000000) : DGood (cutD D n k).1 ∧ (cutD D n k).1.steps ≤ D.steps + 1 := by
  unfold cutD
  cases e : findFile n D.files with
  | none => exact ⟨h, by simp only; omega⟩
  | some f =>
    simp only
    split
    · exact ⟨h, by simp only; omega⟩
    · split
      · exact ⟨h, by simp only; omega⟩
      · split
        · exact ⟨h.step hs, by simp only; rw [stepD_steps]; omega⟩
        · obtain ⟨e1, e2⟩ := find_name e
          have e3 := total_del_find e
          have e4 := h.wf.each f e2
          refine ⟨h.withFiles hs _ ?_ ?_ ?_, by simp only; rw [stepD_steps]; omega⟩
          · unfold putFile; rw [total_ins]; simp only [List.length_take]; rw [e1]; have := h.tot; omega
          · unfold putFile; rw [length_ins]; simp only; rw [e1]; have := h.few; omega
          · intro g hg
            rcases mem_put.1 hg with rfl | ⟨hg, _⟩
            · exact ⟨e4.1, by simp only [List.length_take]; omega⟩
            · exact h.wf.each g hg

def settleS (D : DiskS) : LastS := if fileE D nVow = 31 then ⟨0, -1, 0⟩ else if fileE D nVow ≠ 0 then ⟨0, 0, 0⟩ else lastR (getF D nVow).all
def settle1 (D : DiskS) : DiskS × Nat := if (lastR (getF D nVow).all).g < (getF D nVow).all.length then cutD D nVow (lastR (getF D nVow).all).g else (D, 0)
def settleD (D : DiskS) : DiskS × Nat :=
  if fileE D nVow = 31 then (D, 0) else if fileE D nVow ≠ 0 then (D, fileE D nVow) else if (settle1 D).2 ≠ 0 then settle1 D else syncD (settle1 D).1 nVow
def SettlePost (db mb tb : Nat) (D : DiskS) (w : World) : Ending → World → Prop := fun e w' =>
  e = .returned (.tuple #[.agg #[.int .u64 (settleS D).t, .int .i64 (settleS D).v], .int .i64 (settleD D).2]) ∧ DiskIs w' db mb tb (settleD D).1 ∧ Kept w w' (Own3 db mb tb)

set_option maxHeartbeats 1600000 in
set_option maxRecDepth 20000 in
theorem vsettle_no (db mb tb : Nat) (D : DiskS) (w : World) (hd : DiskIs w db mb tb D) (hf : fileE D nVow ≠ 0) :
    Calls Tryz.prog 53 #[.pointer (some ⟨db, 0, none⟩)] w (SettlePost db mb tb D w) := by
  have HD := Lib.hid hd
  have HF := Lib.hid hf
  obtain ⟨k, hk⟩ : ∃ k, fileE D nVow = k := ⟨_, rfl⟩
  have HK := Lib.hid hk
  have HV : Hid (settleS D = (if k = 31 then ⟨0, -1, 0⟩ else ⟨0, 0, 0⟩) ∧ settleD D = (D, if k = 31 then 0 else k)) := Lib.hid (by
    unfold settleS settleD
    rw [hk]
    rw [hk] at hf
    by_cases h : k = 31
    · rw [if_pos h, if_pos h, if_pos h, if_pos h]; exact ⟨rfl, rfl⟩
    · rw [if_neg h, if_neg h, if_neg h, if_neg h, if_pos hf, if_pos hf]; exact ⟨rfl, rfl⟩)
  clear hd hf hk
  unfold SettlePost
  rw [HV.out.1, HV.out.2]
  by_cases h31 : k = 31
  · subst h31
    go_enter Tryz.func53, Tryz.ntmps53
    go_wp2_with fail
    have S0 := Lib.hid (SC.box w 0 0)
    have B0 : Hid (Below w.heap.size w (w.alloc (.cells #[.int .u64 0, .int .i64 0] 59))) := Lib.hid ((Below.refl _ _).alloc (Nat.le_refl _) _)
    generalize World.alloc w _ = w1 at *
    refine (dread_err db mb tb D nVow w1 (HD.out.below B0.out) (by decide) HF.out).mono ?_
    rintro e w2 ⟨rfl, hb2⟩
    rw [HK.out]
    have S2 := Lib.hid (S0.out.below hb2)
    have B2 : Hid (Below w.heap.size w w2) := Lib.hid (B0.out.trans (hb2.mono B0.out.size))
    clear hb2
    obtain ⟨x0, x1, g0, g1⟩ := S2.out
    go_wp2_with fail
    have S3 := Lib.hid (S2.out.set 0 (-1))
    have B3 := Lib.hid (B2.out.trans ((Kept.set2 w2 w.heap.size (.int .u64 0) (.int .i64 (-1))).below B2.out.size (fun k h => by omega)))
    generalize World.setCell _ _ _ = w3 at *
    obtain ⟨y0, y1, _, _⟩ := S3.out
    refine bodyPost_ret (v := .tuple #[.agg #[.int .u64 0, .int .i64 (-1)], .int .i64 0]) (by simp [results, Tryz.results53, go_sem, y0, y1]) rfl ?_
    exact ⟨rfl, HD.out.below B3.out, Kept.below3 B3.out⟩
  · have h31b : ((k : Int) == 31) = false := by simp; omega
    have h0b : ((k : Int) != 0) = true := by have := HF.out; rw [HK.out] at this; simp; omega
    have HN := Lib.hid h31
    clear h31
    go_enter Tryz.func53, Tryz.ntmps53
    go_wp2_with fail
    have S0 := Lib.hid (SC.box w 0 0)
    have B0 : Hid (Below w.heap.size w (w.alloc (.cells #[.int .u64 0, .int .i64 0] 59))) := Lib.hid ((Below.refl _ _).alloc (Nat.le_refl _) _)
    generalize World.alloc w _ = w1 at *
    refine (dread_err db mb tb D nVow w1 (HD.out.below B0.out) (by decide) HF.out).mono ?_
    rintro e w2 ⟨rfl, hb2⟩
    rw [HK.out]
    have S2 := Lib.hid (S0.out.below hb2)
    have B2 : Hid (Below w.heap.size w w2) := Lib.hid (B0.out.trans (hb2.mono B0.out.size))
    clear hb2
    obtain ⟨x0, x1, g0, g1⟩ := S2.out
    go_wp2_with fail
    have S3 := Lib.hid (S2.out.set 0 0)
    have B3 := Lib.hid (B2.out.trans ((Kept.set2 w2 w.heap.size (.int .u64 0) (.int .i64 0)).below B2.out.size (fun k h => by omega)))
    generalize World.setCell _ _ _ = w3 at *
    obtain ⟨y0, y1, _, _⟩ := S3.out
    refine bodyPost_ret (v := .tuple #[.agg #[.int .u64 0, .int .i64 0], .int .i64 k]) (by simp [results, Tryz.results53, go_sem, y0, y1]) rfl ?_
    exact ⟨rfl, HD.out.below B3.out, Kept.below3 B3.out⟩

set_option maxHeartbeats 1600000 in
set_option maxRecDepth 20000 in
theorem vsettle_yes (db mb tb : Nat) (D : DiskS) (w : World) (hd : DiskIs w db mb tb D) (hw : DGood D) (hs : D.steps + 1 ≤ 1000000000) (hf : fileE D nVow = 0) :
    Calls Tryz.prog 53 #[.pointer (some ⟨db, 0, none⟩)] w (SettlePost db mb tb D w) := by
  obtain ⟨hdn, f, hfi⟩ := fileE_ok hf
  have HD := Lib.hid hd
  have HF := Lib.hid hfi
  have HDN := Lib.hid hdn
  have HW := Lib.hid hw
  have H3 := Lib.hid hd.lt3
  have HG : Hid (getF D nVow = f) := Lib.hid (by unfold getF; rw [hfi]; rfl)
  have HV : Hid (settleS D = lastR f.all ∧ settle1 D = (if (lastR f.all).g < f.all.length then cutD D nVow (lastR f.all).g else (D, 0)) ∧ settleD D = if (settle1 D).2 ≠ 0 then settle1 D else syncD (settle1 D).1 nVow) := Lib.hid (by
    have h1 : settleS D = lastR (getF D nVow).all := by
      unfold settleS
      rw [hf, if_neg (by decide), if_neg (by decide)]
    have h2 : settleD D = if (settle1 D).2 ≠ 0 then settle1 D else syncD (settle1 D).1 nVow := by
      unfold settleD
      rw [hf, if_neg (by decide), if_neg (by decide)]
    refine ⟨by rw [h1, HG.out], ?_, h2⟩
    unfold settle1
    rw [HG.out])
  have HGW : Hid (DGood (cutD D nVow (lastR f.all).g).1) := Lib.hid (hw.cut nVow _ hs).1
  clear hd hf hfi hdn hw
  unfold SettlePost
  go_enter Tryz.func53, Tryz.ntmps53
  go_wp2_with fail
  have S0 := Lib.hid (SC.box w 0 0)
  have B0 : Hid (Below w.heap.size w (w.alloc (.cells #[.int .u64 0, .int .i64 0] 59))) := Lib.hid ((Below.refl _ _).alloc (Nat.le_refl _) _)
  generalize World.alloc w _ = w1 at *
  refine (dread_ok db mb tb D nVow f w1 (HD.out.below B0.out) HDN.out (by decide) HF.out).mono ?_
  rintro e w2 ⟨v, rfl, hB2, hb2⟩
  have S2 := Lib.hid (S0.out.below hb2)
  have B2 : Hid (Below w.heap.size w w2) := Lib.hid (B0.out.trans (hb2.mono B0.out.size))
  obtain ⟨a, c, rfl, _⟩ := hB2.shape
  have HB2 := Lib.hid hB2
  clear hb2 hB2
  go_wp2_with fail
  refine (vlast_any _ f.all w2 HB2.out).mono ?_
  rintro e w3 ⟨rfl, hb3⟩
  have S3 := Lib.hid (S2.out.below hb3)
  have B3 : Hid (Below w.heap.size w w3) := Lib.hid (B2.out.trans (hb3.mono B2.out.size))
  have HLE : Hid ((lastR f.all).g ≤ f.all.length) := Lib.hid (lastR_le _)
  clear hb3
  generalize lastR f.all = s at *
  obtain ⟨t, u, g⟩ := s
  generalize f.all.length = len at *
  simp only at *
  have L3 : w.heap.size < w3.heap.size := S3.out.lt
  have N6 : Hid (¬ Own3 db mb tb w3.heap.size) := Lib.hid (fun h => by have := H3.out _ h; omega)
  have NB : Hid (¬ Own3 db mb tb w.heap.size) := Lib.hid (fun h => by have := H3.out _ h; omega)
  by_cases hlt : g < len
  · have hlti : (g : Int) < (len : Int) := by omega
    have HV2 : Hid (settle1 D = cutD D nVow g) := Lib.hid (by rw [HV.out.2.1, if_pos hlt])
    clear hlt
    go_wp2_with fail
    have S4 := Lib.hid (SC.box w3 t u)
    have A4 : Below w3.heap.size w3 (w3.alloc (.cells #[.int .u64 t, .int .i64 u] 59)) := (Below.refl _ _).alloc (Nat.le_refl _) _
    generalize World.alloc w3 _ = w4 at *
    have B4 : Hid (Below w.heap.size w w4) := Lib.hid (B3.out.trans (A4.mono B3.out.size))
    have T4 := Lib.hid (S3.out.below A4)
    clear A4
    refine (dcut_any db mb tb D nVow g w4 (HD.out.below B4.out) HW.out.wf (by decide)).mono ?_
    rintro e w5 ⟨rfl, hd5, hk5⟩
    have KW : Hid (Kept w w5 (Own3 db mb tb)) := Lib.hid ((Kept.below3 B4.out).trans hk5)
    have SCB : Hid (SC w5 w.heap.size 0 0) := Lib.hid (T4.out.kept hk5 NB.out)
    have SC6 : Hid (SC w5 w3.heap.size t u) := Lib.hid (S4.out.kept hk5 N6.out)
    have DW := Lib.hid hd5
    clear hd5 hk5
    obtain ⟨r, hr⟩ : ∃ r, cutD D nVow g = r := ⟨_, rfl⟩
    obtain ⟨D1, e1⟩ := r
    have GD := HGW
    rw [hr] at HV2 DW GD ⊢
    simp only at DW GD ⊢
    by_cases he : e1 = 0
    · subst he
      have HVF : Hid (settleD D = syncD D1 nVow) := Lib.hid (by rw [HV.out.2.2, HV2.out]; rfl)
      clear hr
      go_wp2_with fail
      obtain ⟨x0, x1, _, _⟩ := SC6.out
      obtain ⟨p0, p1, q0, q1⟩ := SCB.out
      obtain ⟨r, hr⟩ : ∃ r, syncD D1 nVow = r := ⟨_, rfl⟩
      obtain ⟨D2, e2⟩ := r
      have HR := Lib.hid hr
      clear hr
      go_region_with (refine (dsync_any db mb tb D1 nVow _ (by first | exact DW.out | exact DW.out.below ((Below.refl _ _).drew)) GD.out.wf (by decide)).mono ?_; rintro e w9 ⟨rfl, hd9, hk9⟩; have D9 := Lib.hid hd9; have K9 : Hid (Kept w w9 (Own3 db mb tb)) := Lib.hid (KW.out.trans (by first | exact hk9 | exact (Kept.drew _ _).trans hk9)); have SB9 : Hid (SC w9 w.heap.size 0 0) := Lib.hid (SCB.out.kept (by first | exact hk9 | exact (Kept.drew _ _).trans hk9) NB.out); have SC9 : Hid (SC w9 w3.heap.size t u) := Lib.hid (SC6.out.kept (by first | exact hk9 | exact (Kept.drew _ _).trans hk9) N6.out); clear hd9 hk9 p0 p1 q0 q1 x0 x1; obtain ⟨x0, x1, _, _⟩ := SC9.out; obtain ⟨p0, p1, q0, q1⟩ := SB9.out; rw [HR.out] at D9 ⊢)
      all_goals
        go_wp2_with fail
        have SF := Lib.hid (SB9.out.set t u)
        have KF : Hid (Kept w ((w9.setCell ⟨w.heap.size, 0, none⟩ (.int .u64 t)).setCell ⟨w.heap.size, 1, none⟩ (.int .i64 u)) (Own3 db mb tb)) := Lib.hid (K9.out.stepNew (Kept.set2 w9 w.heap.size (.int .u64 t) (.int .i64 u)) (Nat.le_refl _))
        have DF := Lib.hid (D9.out.sc SB9.out NB.out t u)
        generalize World.setCell _ _ _ = wF at *
        obtain ⟨y0, y1, _, _⟩ := SF.out
        simp only [Act.put, List.getElem_toArray, List.getElem_cons_succ, List.getElem_cons_zero, List.setIfInBounds_toArray, List.set_cons_zero, List.set_cons_succ]
        refine bodyPost_ret (v := .tuple #[.agg #[.int .u64 t, .int .i64 u], .int .i64 e2]) ?_ rfl ?_
        · simp [results, Tryz.results53, go_sem, y0, y1]
        · rw [HV.out.1, HVF.out, HR.out]
          exact ⟨rfl, DF.out, KF.out⟩
    · have he1 : ((e1 : Int) != 0) = true := by simp; omega
      have HVF : Hid (settleD D = (D1, e1)) := Lib.hid (by rw [HV.out.2.2, HV2.out]; exact if_pos he)
      clear hr he
      obtain ⟨x0, x1, _, _⟩ := SC6.out
      obtain ⟨p0, p1, q0, q1⟩ := SCB.out
      go_wp2_with fail
      have SF := Lib.hid (SCB.out.set t u)
      have KF : Hid (Kept w ((w5.setCell ⟨w.heap.size, 0, none⟩ (.int .u64 t)).setCell ⟨w.heap.size, 1, none⟩ (.int .i64 u)) (Own3 db mb tb)) := Lib.hid (KW.out.stepNew (Kept.set2 w5 w.heap.size (.int .u64 t) (.int .i64 u)) (Nat.le_refl _))
      have DF := Lib.hid (DW.out.sc SCB.out NB.out t u)
      generalize World.setCell _ _ _ = wF at *
      obtain ⟨y0, y1, _, _⟩ := SF.out
      refine bodyPost_ret (v := .tuple #[.agg #[.int .u64 t, .int .i64 u], .int .i64 e1]) (by simp [results, Tryz.results53, go_sem, y0, y1]) rfl ?_
      rw [HV.out.1, HVF.out]
      exact ⟨rfl, DF.out, KF.out⟩
  · have hlti : ¬ ((g : Int) < (len : Int)) := by omega
    have HVF' : Hid (settleD D = syncD D nVow) := Lib.hid (by rw [HV.out.2.2, HV.out.2.1, if_neg hlt]; rfl)
    clear hlt
    go_wp2_with fail
    have S4 := Lib.hid (SC.box w3 t u)
    have A4 : Below w3.heap.size w3 (w3.alloc (.cells #[.int .u64 t, .int .i64 u] 59)) := (Below.refl _ _).alloc (Nat.le_refl _) _
    generalize World.alloc w3 _ = w4 at *
    have B4 : Hid (Below w.heap.size w w4) := Lib.hid (B3.out.trans (A4.mono B3.out.size))
    have SCB := Lib.hid (S3.out.below A4)
    have SC6 := S4
    have KW : Hid (Kept w w4 (Own3 db mb tb)) := Lib.hid (Kept.below3 B4.out)
    have DW := Lib.hid (HD.out.below B4.out)
    clear A4
    obtain ⟨D1, hD1⟩ : ∃ D1, D = D1 := ⟨_, rfl⟩
    have GD := HW
    have HVF : Hid (settleD D = syncD D1 nVow) := Lib.hid (by rw [HVF'.out, hD1])
    rw [hD1] at DW GD
    clear hD1
    obtain ⟨x0, x1, _, _⟩ := SC6.out
    obtain ⟨p0, p1, q0, q1⟩ := SCB.out
    obtain ⟨r, hr⟩ : ∃ r, syncD D1 nVow = r := ⟨_, rfl⟩
    obtain ⟨D2, e2⟩ := r
    have HR := Lib.hid hr
    clear hr
    go_region_with (refine (dsync_any db mb tb D1 nVow _ (by first | exact DW.out | exact DW.out.below ((Below.refl _ _).drew)) GD.out.wf (by decide)).mono ?_; rintro e w9 ⟨rfl, hd9, hk9⟩; have D9 := Lib.hid hd9; have K9 : Hid (Kept w w9 (Own3 db mb tb)) := Lib.hid (KW.out.trans (by first | exact hk9 | exact (Kept.drew _ _).trans hk9)); have SB9 : Hid (SC w9 w.heap.size 0 0) := Lib.hid (SCB.out.kept (by first | exact hk9 | exact (Kept.drew _ _).trans hk9) NB.out); have SC9 : Hid (SC w9 w3.heap.size t u) := Lib.hid (SC6.out.kept (by first | exact hk9 | exact (Kept.drew _ _).trans hk9) N6.out); clear hd9 hk9 p0 p1 q0 q1 x0 x1; obtain ⟨x0, x1, _, _⟩ := SC9.out; obtain ⟨p0, p1, q0, q1⟩ := SB9.out; rw [HR.out] at D9 ⊢)
    all_goals
      go_wp2_with fail
      have SF := Lib.hid (SB9.out.set t u)
      have KF : Hid (Kept w ((w9.setCell ⟨w.heap.size, 0, none⟩ (.int .u64 t)).setCell ⟨w.heap.size, 1, none⟩ (.int .i64 u)) (Own3 db mb tb)) := Lib.hid (K9.out.stepNew (Kept.set2 w9 w.heap.size (.int .u64 t) (.int .i64 u)) (Nat.le_refl _))
      have DF := Lib.hid (D9.out.sc SB9.out NB.out t u)
      generalize World.setCell _ _ _ = wF at *
      obtain ⟨y0, y1, _, _⟩ := SF.out
      simp only [Act.put, List.getElem_toArray, List.getElem_cons_succ, List.getElem_cons_zero, List.setIfInBounds_toArray, List.set_cons_zero, List.set_cons_succ]
      refine bodyPost_ret (v := .tuple #[.agg #[.int .u64 t, .int .i64 u], .int .i64 e2]) ?_ rfl ?_
      · simp [results, Tryz.results53, go_sem, y0, y1]
      · rw [HV.out.1, HVF.out, HR.out]
        exact ⟨rfl, DF.out, KF.out⟩
end Go.Proofs.YtofhccpagnkalaaGreat

/- The contract of the vow's Open; no conditions but the ranges. -/
namespace Go.Proofs.YtofhccpagnkalaaGreat
open Go.RowKit Go.Maps Go.Proofs.Own

theorem BookIs.box (w : World) (db : Nat) (t v : Int) : BookIs (w.alloc (.cells #[.pointer (some ⟨db, 0, none⟩), .int .u64 t, .int .i64 v] 117)) w.heap.size db t v :=
  ⟨by go_cell, by go_cell, by go_cell, by simp, by simp⟩
theorem vsettle_any (db mb tb : Nat) (D : DiskS) (w : World) (hd : DiskIs w db mb tb D) (hw : DGood D) (hs : D.steps + 1 ≤ 1000000000) :
    Calls Tryz.prog 53 #[.pointer (some ⟨db, 0, none⟩)] w (SettlePost db mb tb D w) := by
  by_cases h : fileE D nVow = 0
  · exact vsettle_yes db mb tb D w hd hw hs h
  · exact vsettle_no db mb tb D w hd h
theorem settleD_good {D : DiskS} (h : DGood D) (hs : D.steps + 2 ≤ 1000000000) : DGood (settleD D).1 ∧ (settleD D).1.steps ≤ D.steps + 2 := by
  have h1 : DGood (settle1 D).1 ∧ (settle1 D).1.steps ≤ D.steps + 1 := by
    unfold settle1
    split
    · exact h.cut _ _ (by omega)
    · exact ⟨h, by simp only; omega⟩
  unfold settleD
  split
  · exact ⟨h, by simp only; omega⟩
  · split
    · exact ⟨h, by simp only; omega⟩
    · split
      · exact ⟨h1.1, by omega⟩
      · have h2 := h1.1.sync nVow (by omega)
        exact ⟨h2.1, by omega⟩

def vopenD (D : DiskS) : DiskS × Nat := if (vgoneD D nVowN).2 ≠ 0 then vgoneD D nVowN else settleD (vgoneD D nVowN).1
def vopenS (D : DiskS) : LastS := settleS (vgoneD D nVowN).1
def OpenPost (db mb tb : Nat) (D : DiskS) (w : World) : Ending → World → Prop := fun e w' =>
  ((vopenD D).2 ≠ 0 → e = .returned (.tuple #[.pointer none, .int .i64 (vopenD D).2])) ∧
  ((vopenD D).2 = 0 → ∃ bb, e = .returned (.tuple #[.pointer (some ⟨bb, 0, none⟩), .int .i64 0]) ∧ BookIs w' bb db (vopenS D).t (vopenS D).v ∧ w.heap.size ≤ bb) ∧
  DiskIs w' db mb tb (vopenD D).1 ∧ Kept w w' (Own3 db mb tb)
theorem vopenD_good {D : DiskS} (h : DGood D) (hs : D.steps + 3 ≤ 1000000000) : DGood (vopenD D).1 ∧ (vopenD D).1.steps ≤ D.steps + 3 := by
  have h1 := vgoneD_good nVowN h (by omega)
  unfold vopenD
  split
  · exact ⟨h1.1, by omega⟩
  · have h2 := settleD_good h1.1 (by omega)
    exact ⟨h2.1, by omega⟩

set_option maxHeartbeats 1600000 in
set_option maxRecDepth 20000 in
theorem vopen_any (db mb tb : Nat) (D : DiskS) (w : World) (hd : DiskIs w db mb tb D) (hw : DGood D) (hs : D.steps + 2 ≤ 1000000000) :
    Calls Tryz.prog 19 #[.pointer (some ⟨db, 0, none⟩)] w (OpenPost db mb tb D w) := by
  have HD := Lib.hid hd
  have HW := Lib.hid hw
  have HG1 := Lib.hid (vgoneD_good nVowN hw (by omega))
  have HS := Lib.hid hs
  have H3 := Lib.hid hd.lt3
  clear hd hw hs
  unfold OpenPost
  obtain ⟨r, hr⟩ : ∃ r, vgoneD D nVowN = r := ⟨_, rfl⟩
  obtain ⟨D1, e1⟩ := r
  have HR := Lib.hid hr
  have HV : Hid (vopenD D = (if e1 ≠ 0 then (D1, e1) else settleD D1) ∧ vopenS D = settleS D1) := Lib.hid (by unfold vopenD vopenS; rw [hr]; exact ⟨rfl, rfl⟩)
  rw [hr] at HG1
  clear hr
  rw [HV.out.1, HV.out.2]
  clear HV
  by_cases he : e1 = 0
  · subst he
    rw [if_neg (by simp)]
    obtain ⟨r2, hr2⟩ : ∃ r, settleD D1 = r := ⟨_, rfl⟩
    obtain ⟨D2, e2⟩ := r2
    obtain ⟨s, hs⟩ : ∃ s, settleS D1 = s := ⟨_, rfl⟩
    obtain ⟨t, v, g⟩ := s
    have HR2 := Lib.hid hr2
    have HS2 := Lib.hid hs
    rw [hr2, hs]
    clear hr2 hs
    simp only
    by_cases he2 : e2 = 0
    · subst he2
      go_enter Tryz.func19, Tryz.ntmps19
      go_wp2_with fail
      refine (vgone_any db mb tb D nVowN w HD.out HW.out (by decide)).mono ?_
      rintro e w1 ⟨rfl, hd1, hk1⟩
      rw [HR.out] at hd1 ⊢
      have DD1 := Lib.hid hd1
      have K1 := Lib.hid hk1
      clear hd1 hk1
      go_wp2_with fail
      refine (vsettle_any db mb tb D1 w1 DD1.out HG1.out.1 (by have h1 : D1.steps ≤ D.steps + 1 := HG1.out.2; have := HS.out; omega)).mono ?_
      rintro e w2 ⟨rfl, hd2, hk2⟩
      rw [HR2.out] at hd2 ⊢
      rw [HS2.out]
      have DD2 := Lib.hid hd2
      have K2 := Lib.hid (K1.out.trans hk2)
      clear hd2 hk2
      go_wp2_with fail
      have S3 := Lib.hid (SC.box w2 t v)
      have A3 : Below w2.heap.size w2 (w2.alloc (.cells #[.int .u64 t, .int .i64 v] 59)) := (Below.refl _ _).alloc (Nat.le_refl _) _
      have A4 : Below w2.heap.size w2 ((w2.alloc (.cells #[.int .u64 t, .int .i64 v] 59)).alloc (.cells #[.pointer (some ⟨db, 0, none⟩), .int .u64 t, .int .i64 v] 117)) := A3.alloc (by simp) _
      have BK := BookIs.box (w2.alloc (.cells #[.int .u64 t, .int .i64 v] 59)) db t v
      go_ret2
      refine ⟨fun h => absurd rfl h, fun _ => ⟨_, rfl, ?_, ?_⟩, ?_, ?_⟩
      · simpa using BK
      · have := K2.out.size
        omega
      · exact DD2.out.below A4
      · exact K2.out.trans (Kept.below3 A4)
    · have he2b : ((e2 : Int) != 0) = true := by simp; omega
      have HE2 := Lib.hid he2
      clear he2
      go_enter Tryz.func19, Tryz.ntmps19
      go_wp2_with fail
      refine (vgone_any db mb tb D nVowN w HD.out HW.out (by decide)).mono ?_
      rintro e w1 ⟨rfl, hd1, hk1⟩
      rw [HR.out] at hd1 ⊢
      have DD1 := Lib.hid hd1
      have K1 := Lib.hid hk1
      clear hd1 hk1
      go_wp2_with fail
      refine (vsettle_any db mb tb D1 w1 DD1.out HG1.out.1 (by have h1 : D1.steps ≤ D.steps + 1 := HG1.out.2; have := HS.out; omega)).mono ?_
      rintro e w2 ⟨rfl, hd2, hk2⟩
      rw [HR2.out] at hd2 ⊢
      rw [HS2.out]
      have DD2 := Lib.hid hd2
      have K2 := Lib.hid (K1.out.trans hk2)
      clear hd2 hk2
      go_wp2_with fail
      have S3 := Lib.hid (SC.box w2 t v)
      have A3 : Below w2.heap.size w2 (w2.alloc (.cells #[.int .u64 t, .int .i64 v] 59)) := (Below.refl _ _).alloc (Nat.le_refl _) _
      go_ret2
      exact ⟨fun _ => rfl, fun h => absurd h HE2.out, DD2.out.below A3, K2.out.trans (Kept.below3 A3)⟩
  · have he1 : ((e1 : Int) != 0) = true := by simp; omega
    have HE := Lib.hid he
    clear he
    go_enter Tryz.func19, Tryz.ntmps19
    go_wp2_with fail
    refine (vgone_any db mb tb D nVowN w HD.out HW.out (by decide)).mono ?_
    rintro e w1 ⟨rfl, hd1, hk1⟩
    have D1 := Lib.hid hd1
    have K1 := Lib.hid hk1
    clear hd1 hk1
    rw [HR.out] at D1 ⊢
    go_wp2_with fail
    go_ret2
    exact ⟨rfl, D1.out, K1.out⟩
end Go.Proofs.YtofhccpagnkalaaGreat

/- The contract of the vow's write; no conditions but the ranges. -/
namespace Go.Proofs.YtofhccpagnkalaaGreat
open Go.RowKit Go.Maps Go.Proofs.Own

/-- Bytes behind a file's, and all of it kept. -/
def wrTo (D : DiskS) (n : ByteArray) (b : List Nat) : DiskS × Nat := if (appendD D n b).2 ≠ 0 then appendD D n b else syncD (appendD D n b).1 n
def vwrite2 (D : DiskS) (b : List Nat) : DiskS × Nat := if (wrTo D nVowN b).2 ≠ 0 then wrTo D nVowN b else moveD (wrTo D nVowN b).1 nVowN nVow
def vwriteD (D : DiskS) (b : List Nat) : DiskS × Nat :=
  if D.down = true then (D, 50) else if (getF D nVow).all.length < 256 then wrTo D nVow b else if (vgoneD D nVowN).2 ≠ 0 then vgoneD D nVowN else vwrite2 (vgoneD D nVowN).1 b
theorem wrTo_good {D : DiskS} (n : ByteArray) (b : List Nat) (h : DGood D) (hs : D.steps + 2 ≤ 1000000000) : DGood (wrTo D n b).1 ∧ (wrTo D n b).1.steps ≤ D.steps + 2 := by
  have h1 := h.append n b (by omega)
  unfold wrTo
  split
  · exact ⟨h1.1, by omega⟩
  · have h2 := h1.1.sync n (by omega)
    exact ⟨h2.1, by omega⟩
theorem vwrite2_good {D : DiskS} (b : List Nat) (h : DGood D) (hs : D.steps + 3 ≤ 1000000000) : DGood (vwrite2 D b).1 ∧ (vwrite2 D b).1.steps ≤ D.steps + 3 := by
  have h1 := wrTo_good nVowN b h (by omega)
  unfold vwrite2
  split
  · exact ⟨h1.1, by omega⟩
  · have h2 := h1.1.move nVowN nVow (by omega)
    exact ⟨h2.1, by omega⟩
theorem vwriteD_good {D : DiskS} (b : List Nat) (h : DGood D) (hs : D.steps + 4 ≤ 1000000000) : DGood (vwriteD D b).1 ∧ (vwriteD D b).1.steps ≤ D.steps + 4 := by
  unfold vwriteD
  split
  · exact ⟨h, by simp only; omega⟩
  · split
    · have h1 := wrTo_good nVow b h (by omega)
      exact ⟨h1.1, by omega⟩
    · have h1 := vgoneD_good nVowN h (by omega)
      split
      · exact ⟨h1.1, by omega⟩
      · have h2 := vwrite2_good b h1.1 (by omega)
        exact ⟨h2.1, by omega⟩

set_option maxHeartbeats 1600000 in
set_option maxRecDepth 20000 in
theorem vwrite_down (bb db mb tb : Nat) (D : DiskS) (bv : Value) (b : List Nat) (w : World) (hd : DiskIs w db mb tb D) (hw : DGood D) (hs : D.steps + 4 ≤ 1000000000) (hc : w.cell? ⟨bb, 0, none⟩ = some (.pointer (some ⟨db, 0, none⟩))) (hnb : ¬ Own3 db mb tb bb)
    (hB : Bytes w bv b) (hbv : ∀ g, bv.ownBlock = some g → ¬ Own3 db mb tb g) (hdn : D.down = true) :
    Calls Tryz.prog 96 #[.pointer (some ⟨bb, 0, none⟩), bv] w (OpPost db mb tb (vwriteD D b) w) := by
  have HD := Lib.hid hd
  have HW := Lib.hid hw
  have HS := Lib.hid hs
  have HNB := Lib.hid hnb
  have HB := Lib.hid hB
  have HBV := Lib.hid hbv
  have HC := Lib.hid hc
  obtain ⟨ab, cb, rfl, _⟩ := hB.shape
  clear hd hw hs hnb hB hbv
  have HDN := Lib.hid hdn
  have HV : Hid (vwriteD D b = (D, 50)) := Lib.hid (by unfold vwriteD; rw [if_pos hdn])
  have HF : Hid (fileE D nVow = 50) := Lib.hid (by unfold fileE; rw [if_pos hdn])
  clear hdn
  go_enter Tryz.func96, Tryz.ntmps96
  go_wp2_with fail
  refine (dread_err db mb tb D nVow w HD.out (by decide) (by rw [HF.out]; decide)).mono ?_
  rintro e w1 ⟨rfl, hb1⟩
  rw [HF.out]
  have B1 := Lib.hid hb1
  clear hb1
  go_wp2_with fail
  go_ret
  exact ⟨by rw [HV.out]; rfl, by rw [HV.out]; exact HD.out.below B1.out, Kept.below3 B1.out⟩

set_option maxHeartbeats 1600000 in
set_option maxRecDepth 20000 in
theorem vwrite_none (bb db mb tb : Nat) (D : DiskS) (bv : Value) (b : List Nat) (w : World) (hd : DiskIs w db mb tb D) (hw : DGood D) (hs : D.steps + 4 ≤ 1000000000) (hc : w.cell? ⟨bb, 0, none⟩ = some (.pointer (some ⟨db, 0, none⟩))) (hnb : ¬ Own3 db mb tb bb)
    (hB : Bytes w bv b) (hbv : ∀ g, bv.ownBlock = some g → ¬ Own3 db mb tb g) (hdn : D.down = false) (hf : findFile nVow D.files = none) :
    Calls Tryz.prog 96 #[.pointer (some ⟨bb, 0, none⟩), bv] w (OpPost db mb tb (vwriteD D b) w) := by
  have HD := Lib.hid hd
  have HW := Lib.hid hw
  have HS := Lib.hid hs
  have HNB := Lib.hid hnb
  have HB := Lib.hid hB
  have HBV := Lib.hid hbv
  have HC := Lib.hid hc
  obtain ⟨ab, cb, rfl, _⟩ := hB.shape
  clear hd hw hs hnb hB hbv
  have HF : Hid (fileE D nVow = 31) := Lib.hid (by unfold fileE; rw [if_neg (by rw [hdn]; decide), if_pos hf])
  have hlen : (getF D nVow).all.length < 256 := by rw [getF_none hf]; decide
  have HVT : Hid (vwriteD D b = wrTo D nVow b) := Lib.hid (by
    unfold vwriteD
    rw [if_neg (by rw [hdn]; decide), if_pos hlen])
  have HVE : Hid (∀ D' e', wrTo D nVow b = (D', e') → e' ≠ 0 → vwriteD D b = (D', e')) := Lib.hid fun D' e' h _ => by rw [HVT.out, h]
  have HV0 : Hid (∀ D', wrTo D nVow b = (D', 0) → vwriteD D b = (D', 0)) := Lib.hid fun D' h => by rw [HVT.out, h]
  clear hdn hf hlen
  go_enter Tryz.func96, Tryz.ntmps96
  go_wp2_with fail
  refine (dread_err db mb tb D nVow w HD.out (by decide) (by rw [HF.out]; decide)).mono ?_
  rintro e w1 ⟨rfl, hb1⟩
  rw [HF.out]
  have C1 := Lib.hid (HC.out)
  have DW := Lib.hid (HD.out.below hb1)
  have KW : Hid (Kept w w1 (Own3 db mb tb)) := Lib.hid (Kept.below3 hb1)
  have BVW := Lib.hid (HB.out.below hb1)
  have CW : Hid (w1.cell? ⟨bb, 0, none⟩ = some (.pointer (some ⟨db, 0, none⟩))) := Lib.hid (KW.out.cell HC.out HNB.out)
  have GD : Hid (DGood D ∧ D.steps + 2 ≤ 1000000000) := Lib.hid ⟨HW.out, by have := HS.out; omega⟩
  clear hb1
  clear hc
  have c1 := CW.out
  go_wp2_with fail
  obtain ⟨r, hr⟩ : ∃ r, appendD D nVow b = r := ⟨_, rfl⟩
  obtain ⟨D2, e2⟩ := r
  have HR := Lib.hid hr
  have G2 : Hid (DGood D2 ∧ D2.steps ≤ D.steps + 1) := Lib.hid (by have h := GD.out.1.append nVow b (by have := GD.out.2; omega); rw [hr] at h; exact h)
  clear hr
  refine (dapp_any db mb tb D nVow _ b w1 DW.out GD.out.1 BVW.out (by decide)).mono ?_
  rintro e w4 ⟨rfl, hd4, hk4⟩
  rw [HR.out] at hd4 ⊢
  have D4 := Lib.hid hd4
  have K4 := Lib.hid (KW.out.trans hk4)
  have C4 : Hid (w4.cell? ⟨bb, 0, none⟩ = some (.pointer (some ⟨db, 0, none⟩))) := Lib.hid (hk4.cell CW.out HNB.out)
  clear hd4 hk4
  by_cases he2 : e2 = 0
  · subst he2
    have c4 := C4.out
    go_wp2_with fail
    obtain ⟨r, hr⟩ : ∃ r, syncD D2 nVow = r := ⟨_, rfl⟩
    obtain ⟨D3, e3⟩ := r
    have HR3 := Lib.hid hr
    have G3 : Hid (DGood D3 ∧ D3.steps ≤ D2.steps + 1) := Lib.hid (by have h := G2.out.1.sync nVow (by have := GD.out.2; have := G2.out.2; omega); rw [hr] at h; exact h)
    clear hr
    refine (dsync_any db mb tb D2 nVow w4 D4.out G2.out.1.wf (by decide)).mono ?_
    rintro e w5 ⟨rfl, hd5, hk5⟩
    rw [HR3.out] at hd5 ⊢
    have D5 := Lib.hid hd5
    have K5 := Lib.hid (K4.out.trans hk5)
    have C5 : Hid (w5.cell? ⟨bb, 0, none⟩ = some (.pointer (some ⟨db, 0, none⟩))) := Lib.hid (hk5.cell C4.out HNB.out)
    clear hd5 hk5 c4
    have HT : Hid (wrTo D nVow b = (D3, e3)) := Lib.hid (by unfold wrTo; rw [HR.out]; exact HR3.out)
    by_cases he3 : e3 = 0
    · subst he3
      go_wp2_with fail
      go_ret
      exact ⟨by rw [HV0.out D3 HT.out]; rfl, by rw [HV0.out D3 HT.out]; exact D5.out, K5.out⟩
    · have he3b : ((e3 : Int) != 0) = true := by simp; omega
      have HE := Lib.hid he3
      clear he3
      go_wp2_with fail
      go_ret
      exact ⟨by rw [HVE.out D3 e3 HT.out HE.out]; rfl, by rw [HVE.out D3 e3 HT.out HE.out]; exact D5.out, K5.out⟩
  · have he2b : ((e2 : Int) != 0) = true := by simp; omega
    have HE := Lib.hid he2
    have HT : Hid (wrTo D nVow b = (D2, e2)) := Lib.hid (by unfold wrTo; rw [HR.out]; exact if_pos he2)
    clear he2
    go_wp2_with fail
    go_ret
    exact ⟨by rw [HVE.out D2 e2 HT.out HE.out]; rfl, by rw [HVE.out D2 e2 HT.out HE.out]; exact D4.out, K4.out⟩

set_option maxHeartbeats 1600000 in
set_option maxRecDepth 20000 in
theorem vwrite_short (bb db mb tb : Nat) (D : DiskS) (bv : Value) (b : List Nat) (w : World) (hd : DiskIs w db mb tb D) (hw : DGood D) (hs : D.steps + 4 ≤ 1000000000) (hc : w.cell? ⟨bb, 0, none⟩ = some (.pointer (some ⟨db, 0, none⟩))) (hnb : ¬ Own3 db mb tb bb)
    (hB : Bytes w bv b) (hbv : ∀ g, bv.ownBlock = some g → ¬ Own3 db mb tb g) (f : FileS) (hdn : D.down = false) (hf : findFile nVow D.files = some f) (hl : f.all.length < 256) :
    Calls Tryz.prog 96 #[.pointer (some ⟨bb, 0, none⟩), bv] w (OpPost db mb tb (vwriteD D b) w) := by
  have HD := Lib.hid hd
  have HW := Lib.hid hw
  have HS := Lib.hid hs
  have HNB := Lib.hid hnb
  have HB := Lib.hid hB
  have HBV := Lib.hid hbv
  have HC := Lib.hid hc
  obtain ⟨ab, cb, rfl, _⟩ := hB.shape
  clear hd hw hs hnb hB hbv
  have HF := Lib.hid hf
  have HDN := Lib.hid hdn
  have hlen : (getF D nVow).all.length < 256 := by unfold getF; rw [hf]; exact hl
  have HVT : Hid (vwriteD D b = wrTo D nVow b) := Lib.hid (by
    unfold vwriteD
    rw [if_neg (by rw [hdn]; decide), if_pos hlen])
  have HVE : Hid (∀ D' e', wrTo D nVow b = (D', e') → e' ≠ 0 → vwriteD D b = (D', e')) := Lib.hid fun D' e' h _ => by rw [HVT.out, h]
  have HV0 : Hid (∀ D', wrTo D nVow b = (D', 0) → vwriteD D b = (D', 0)) := Lib.hid fun D' h => by rw [HVT.out, h]
  clear hdn hf hlen
  generalize hL : f.all = L at hl
  have hli : (L.length : Int) < 256 := by omega
  go_enter Tryz.func96, Tryz.ntmps96
  go_wp2_with fail
  refine (dread_ok db mb tb D nVow f w HD.out HDN.out (by decide) HF.out).mono ?_
  rintro e w1 ⟨v, rfl, hBf, hb1⟩
  obtain ⟨a, c, rfl, _⟩ := hBf.shape
  rw [hL] at hBf ⊢
  clear hBf
  have C1 := Lib.hid (HC.out)
  have DW := Lib.hid (HD.out.below hb1)
  have KW : Hid (Kept w w1 (Own3 db mb tb)) := Lib.hid (Kept.below3 hb1)
  have BVW := Lib.hid (HB.out.below hb1)
  have CW : Hid (w1.cell? ⟨bb, 0, none⟩ = some (.pointer (some ⟨db, 0, none⟩))) := Lib.hid (KW.out.cell HC.out HNB.out)
  have GD : Hid (DGood D ∧ D.steps + 2 ≤ 1000000000) := Lib.hid ⟨HW.out, by have := HS.out; omega⟩
  clear hb1
  clear hc hl
  have c1 := CW.out
  go_wp2_with fail
  obtain ⟨r, hr⟩ : ∃ r, appendD D nVow b = r := ⟨_, rfl⟩
  obtain ⟨D2, e2⟩ := r
  have HR := Lib.hid hr
  have G2 : Hid (DGood D2 ∧ D2.steps ≤ D.steps + 1) := Lib.hid (by have h := GD.out.1.append nVow b (by have := GD.out.2; omega); rw [hr] at h; exact h)
  clear hr
  refine (dapp_any db mb tb D nVow _ b w1 DW.out GD.out.1 BVW.out (by decide)).mono ?_
  rintro e w4 ⟨rfl, hd4, hk4⟩
  rw [HR.out] at hd4 ⊢
  have D4 := Lib.hid hd4
  have K4 := Lib.hid (KW.out.trans hk4)
  have C4 : Hid (w4.cell? ⟨bb, 0, none⟩ = some (.pointer (some ⟨db, 0, none⟩))) := Lib.hid (hk4.cell CW.out HNB.out)
  clear hd4 hk4
  by_cases he2 : e2 = 0
  · subst he2
    have c4 := C4.out
    go_wp2_with fail
    obtain ⟨r, hr⟩ : ∃ r, syncD D2 nVow = r := ⟨_, rfl⟩
    obtain ⟨D3, e3⟩ := r
    have HR3 := Lib.hid hr
    have G3 : Hid (DGood D3 ∧ D3.steps ≤ D2.steps + 1) := Lib.hid (by have h := G2.out.1.sync nVow (by have := GD.out.2; have := G2.out.2; omega); rw [hr] at h; exact h)
    clear hr
    refine (dsync_any db mb tb D2 nVow w4 D4.out G2.out.1.wf (by decide)).mono ?_
    rintro e w5 ⟨rfl, hd5, hk5⟩
    rw [HR3.out] at hd5 ⊢
    have D5 := Lib.hid hd5
    have K5 := Lib.hid (K4.out.trans hk5)
    have C5 : Hid (w5.cell? ⟨bb, 0, none⟩ = some (.pointer (some ⟨db, 0, none⟩))) := Lib.hid (hk5.cell C4.out HNB.out)
    clear hd5 hk5 c4
    have HT : Hid (wrTo D nVow b = (D3, e3)) := Lib.hid (by unfold wrTo; rw [HR.out]; exact HR3.out)
    by_cases he3 : e3 = 0
    · subst he3
      go_wp2_with fail
      go_ret
      exact ⟨by rw [HV0.out D3 HT.out]; rfl, by rw [HV0.out D3 HT.out]; exact D5.out, K5.out⟩
    · have he3b : ((e3 : Int) != 0) = true := by simp; omega
      have HE := Lib.hid he3
      clear he3
      go_wp2_with fail
      go_ret
      exact ⟨by rw [HVE.out D3 e3 HT.out HE.out]; rfl, by rw [HVE.out D3 e3 HT.out HE.out]; exact D5.out, K5.out⟩
  · have he2b : ((e2 : Int) != 0) = true := by simp; omega
    have HE := Lib.hid he2
    have HT : Hid (wrTo D nVow b = (D2, e2)) := Lib.hid (by unfold wrTo; rw [HR.out]; exact if_pos he2)
    clear he2
    go_wp2_with fail
    go_ret
    exact ⟨by rw [HVE.out D2 e2 HT.out HE.out]; rfl, by rw [HVE.out D2 e2 HT.out HE.out]; exact D4.out, K4.out⟩

set_option maxHeartbeats 1600000 in
set_option maxRecDepth 20000 in
theorem vwrite_long (bb db mb tb : Nat) (D : DiskS) (bv : Value) (b : List Nat) (w : World) (hd : DiskIs w db mb tb D) (hw : DGood D) (hs : D.steps + 4 ≤ 1000000000) (hc : w.cell? ⟨bb, 0, none⟩ = some (.pointer (some ⟨db, 0, none⟩))) (hnb : ¬ Own3 db mb tb bb)
    (hB : Bytes w bv b) (hbv : ∀ g, bv.ownBlock = some g → ¬ Own3 db mb tb g) (f : FileS) (hdn : D.down = false) (hf : findFile nVow D.files = some f) (hl : ¬ f.all.length < 256) :
    Calls Tryz.prog 96 #[.pointer (some ⟨bb, 0, none⟩), bv] w (OpPost db mb tb (vwriteD D b) w) := by
  have HD := Lib.hid hd
  have HW := Lib.hid hw
  have HS := Lib.hid hs
  have HNB := Lib.hid hnb
  have HB := Lib.hid hB
  have HBV := Lib.hid hbv
  have HC := Lib.hid hc
  obtain ⟨ab, cb, rfl, _⟩ := hB.shape
  clear hd hw hs hnb hB hbv
  have HF := Lib.hid hf
  have HDN := Lib.hid hdn
  obtain ⟨r, hr⟩ : ∃ r, vgoneD D nVowN = r := ⟨_, rfl⟩
  obtain ⟨D1, e1⟩ := r
  have HR1 := Lib.hid hr
  have HVT : Hid (vwriteD D b = if e1 ≠ 0 then (D1, e1) else vwrite2 D1 b) := Lib.hid (by
    unfold vwriteD
    rw [if_neg (by rw [hdn]; decide), if_neg (by unfold getF; rw [hf]; exact hl), hr])
  have G1 : Hid (DGood D1 ∧ D1.steps ≤ D.steps + 1) := Lib.hid (by have h := vgoneD_good nVowN HW.out (by have := HS.out; omega); rw [hr] at h; exact h)
  clear hdn hf hr
  generalize hL : f.all = L at hl
  have hli : ¬ (L.length : Int) < 256 := by omega
  go_enter Tryz.func96, Tryz.ntmps96
  go_wp2_with fail
  refine (dread_ok db mb tb D nVow f w HD.out HDN.out (by decide) HF.out).mono ?_
  rintro e w1 ⟨v, rfl, hBf, hb1⟩
  obtain ⟨a, c, rfl, _⟩ := hBf.shape
  rw [hL] at hBf ⊢
  clear hBf
  have C1 := Lib.hid (HC.out)
  have DW := Lib.hid (HD.out.below hb1)
  have KW : Hid (Kept w w1 (Own3 db mb tb)) := Lib.hid (Kept.below3 hb1)
  have BVW := Lib.hid (HB.out.below hb1)
  have CW : Hid (w1.cell? ⟨bb, 0, none⟩ = some (.pointer (some ⟨db, 0, none⟩))) := Lib.hid (KW.out.cell HC.out HNB.out)
  have GD : Hid (DGood D ∧ D.steps + 2 ≤ 1000000000) := Lib.hid ⟨HW.out, by have := HS.out; omega⟩
  clear hb1
  clear hc hl
  have c1 := CW.out
  go_wp2_with fail
  refine (vgone_any db mb tb D nVowN w1 DW.out HW.out (by decide)).mono ?_
  rintro e w2 ⟨rfl, hd2, hk2⟩
  rw [HR1.out] at hd2 ⊢
  have DX := Lib.hid hd2
  have KX := Lib.hid (KW.out.trans hk2)
  have BX := Lib.hid (BVW.out.kept hk2 HBV.out)
  have CX : Hid (w2.cell? ⟨bb, 0, none⟩ = some (.pointer (some ⟨db, 0, none⟩))) := Lib.hid (hk2.cell CW.out HNB.out)
  clear hd2 hk2 c1 DW KW BVW CW GD
  have DW := DX
  have KW := KX
  have BVW := BX
  have CW := CX
  have GD : Hid (DGood D1 ∧ D1.steps + 3 ≤ 1000000000) := Lib.hid ⟨G1.out.1, by have := HS.out; have := G1.out.2; omega⟩
  by_cases he1 : e1 = 0
  · subst he1
    have HVE : Hid (∀ D' e', wrTo D1 nVowN b = (D', e') → e' ≠ 0 → vwriteD D b = (D', e')) := Lib.hid fun D' e' h h2 => by
      rw [HVT.out, if_neg (by decide)]
      unfold vwrite2
      rw [h]
      exact if_pos h2
    have HV0 : Hid (∀ D', wrTo D1 nVowN b = (D', 0) → vwriteD D b = moveD D' nVowN nVow) := Lib.hid fun D' h => by
      rw [HVT.out, if_neg (by decide)]
      unfold vwrite2
      rw [h]
      exact if_neg (fun h => h rfl)
    have c2 := CW.out
    go_wp2_with fail
    obtain ⟨r, hr⟩ : ∃ r, appendD D1 nVowN b = r := ⟨_, rfl⟩
    obtain ⟨D2, e2⟩ := r
    have HR := Lib.hid hr
    have G2 : Hid (DGood D2 ∧ D2.steps ≤ D1.steps + 1) := Lib.hid (by have h := GD.out.1.append nVowN b (by have := GD.out.2; omega); rw [hr] at h; exact h)
    clear hr
    refine (dapp_any db mb tb D1 nVowN _ b w2 DW.out GD.out.1 BVW.out (by decide)).mono ?_
    rintro e w4 ⟨rfl, hd4, hk4⟩
    rw [HR.out] at hd4 ⊢
    have D4 := Lib.hid hd4
    have K4 := Lib.hid (KW.out.trans hk4)
    have C4 : Hid (w4.cell? ⟨bb, 0, none⟩ = some (.pointer (some ⟨db, 0, none⟩))) := Lib.hid (hk4.cell CW.out HNB.out)
    clear hd4 hk4
    by_cases he2 : e2 = 0
    · subst he2
      have c4 := C4.out
      go_wp2_with fail
      obtain ⟨r, hr⟩ : ∃ r, syncD D2 nVowN = r := ⟨_, rfl⟩
      obtain ⟨D3, e3⟩ := r
      have HR3 := Lib.hid hr
      have G3 : Hid (DGood D3 ∧ D3.steps ≤ D2.steps + 1) := Lib.hid (by have h := G2.out.1.sync nVowN (by have := GD.out.2; have := G2.out.2; omega); rw [hr] at h; exact h)
      clear hr
      refine (dsync_any db mb tb D2 nVowN w4 D4.out G2.out.1.wf (by decide)).mono ?_
      rintro e w5 ⟨rfl, hd5, hk5⟩
      rw [HR3.out] at hd5 ⊢
      have D5 := Lib.hid hd5
      have K5 := Lib.hid (K4.out.trans hk5)
      have C5 : Hid (w5.cell? ⟨bb, 0, none⟩ = some (.pointer (some ⟨db, 0, none⟩))) := Lib.hid (hk5.cell C4.out HNB.out)
      clear hd5 hk5 c4
      have HT : Hid (wrTo D1 nVowN b = (D3, e3)) := Lib.hid (by unfold wrTo; rw [HR.out]; exact HR3.out)
      by_cases he3 : e3 = 0
      · subst he3
        have c5 := C5.out
        go_wp2_with fail
        refine (dmove_any db mb tb D3 nVowN nVow w5 D5.out G3.out.1.wf (by decide) (by decide)).mono ?_
        rintro e w6 ⟨rfl, hd6, hk6⟩
        have D6 := Lib.hid hd6
        have K6 := Lib.hid (K5.out.trans hk6)
        clear hd6 hk6 c5
        go_wp2_with fail
        go_ret
        exact ⟨by rw [HV0.out D3 HT.out]; rfl, by rw [HV0.out D3 HT.out]; exact D6.out, K6.out⟩
      · have he3b : ((e3 : Int) != 0) = true := by simp; omega
        have HE := Lib.hid he3
        clear he3
        go_wp2_with fail
        go_ret
        exact ⟨by rw [HVE.out D3 e3 HT.out HE.out]; rfl, by rw [HVE.out D3 e3 HT.out HE.out]; exact D5.out, K5.out⟩
    · have he2b : ((e2 : Int) != 0) = true := by simp; omega
      have HE := Lib.hid he2
      have HT : Hid (wrTo D1 nVowN b = (D2, e2)) := Lib.hid (by unfold wrTo; rw [HR.out]; exact if_pos he2)
      clear he2
      go_wp2_with fail
      go_ret
      exact ⟨by rw [HVE.out D2 e2 HT.out HE.out]; rfl, by rw [HVE.out D2 e2 HT.out HE.out]; exact D4.out, K4.out⟩
  · have he1b : ((e1 : Int) != 0) = true := by simp; omega
    have HV : Hid (vwriteD D b = (D1, e1)) := Lib.hid (by rw [HVT.out, if_pos he1])
    clear he1
    go_wp2_with fail
    go_ret
    exact ⟨by rw [HV.out]; rfl, by rw [HV.out]; exact DW.out, KW.out⟩

set_option maxHeartbeats 1600000 in
set_option maxRecDepth 20000 in
theorem vwrite_any (bb db mb tb : Nat) (D : DiskS) (bv : Value) (b : List Nat) (w : World) (hd : DiskIs w db mb tb D) (hw : DGood D) (hs : D.steps + 4 ≤ 1000000000) (hc : w.cell? ⟨bb, 0, none⟩ = some (.pointer (some ⟨db, 0, none⟩))) (hnb : ¬ Own3 db mb tb bb)
    (hB : Bytes w bv b) (hbv : ∀ g, bv.ownBlock = some g → ¬ Own3 db mb tb g) :
    Calls Tryz.prog 96 #[.pointer (some ⟨bb, 0, none⟩), bv] w (OpPost db mb tb (vwriteD D b) w) := by
  have HD := Lib.hid hd
  have HW := Lib.hid hw
  have HS := Lib.hid hs
  have HNB := Lib.hid hnb
  have HB := Lib.hid hB
  have HBV := Lib.hid hbv
  have HC := Lib.hid hc
  obtain ⟨ab, cb, rfl, _⟩ := hB.shape
  clear hd hw hs hnb hB hbv
  cases hdn : D.down
  · cases hf : findFile nVow D.files with
    | none => exact vwrite_none bb db mb tb D _ b w HD.out HW.out HS.out hc HNB.out HB.out HBV.out hdn hf
    | some f =>
      by_cases hl : f.all.length < 256
      · exact vwrite_short bb db mb tb D _ b w HD.out HW.out HS.out hc HNB.out HB.out HBV.out f hdn hf hl
      · exact vwrite_long bb db mb tb D _ b w HD.out HW.out HS.out hc HNB.out HB.out HBV.out f hdn hf hl
  · exact vwrite_down bb db mb tb D _ b w HD.out HW.out HS.out hc HNB.out HB.out HBV.out hdn
end Go.Proofs.YtofhccpagnkalaaGreat

/- The contract of the vow's Keep; no conditions but the ranges. -/
namespace Go.Proofs.YtofhccpagnkalaaGreat
open Go.RowKit Go.Maps Go.Proofs.Own

def keepD (D : DiskS) (t v t' v' : Int) : DiskS × Nat :=
  if vSnd t' v' = false then (D, 2) else if vMy t v t' v' = false then (D, 34) else if t' = t ∧ v' = v then (D, 0) else vwriteD D (frP 3 (numsW [t'.toNat, (v' + 1).toNat]))
theorem keepD_good {D : DiskS} (t v t' v' : Int) (h : DGood D) (hs : D.steps + 4 ≤ 1000000000) : DGood (keepD D t v t' v').1 ∧ (keepD D t v t' v').1.steps ≤ D.steps + 4 := by
  unfold keepD
  split
  · exact ⟨h, by simp only; omega⟩
  · split
    · exact ⟨h, by simp only; omega⟩
    · split
      · exact ⟨h, by simp only; omega⟩
      · exact vwriteD_good _ h hs
def KeepPost (bb db mb tb : Nat) (D : DiskS) (t v t' v' : Int) (w : World) : Ending → World → Prop := fun e w' =>
  e = .returned (.int .i64 (keepD D t v t' v').2) ∧ DiskIs w' db mb tb (keepD D t v t' v').1 ∧ BookIs w' bb db (if (keepD D t v t' v').2 = 0 then t' else t) (if (keepD D t v t' v').2 = 0 then v' else v) ∧ Kept w w' (fun k => Own3 db mb tb k ∨ k = bb)
theorem BookIs.set {w : World} {bb db : Nat} {t v : Int} (h : BookIs w bb db t v) (t' v' : Int) : BookIs ((w.setCell ⟨bb, 1, none⟩ (.int .u64 t')).setCell ⟨bb, 2, none⟩ (.int .i64 v')) bb db t' v' := by
  refine ⟨?_, ?_, ?_, ?_, ?_⟩
  · rw [World.cell?_setCell_other _ _ _ _ (by simp), World.cell?_setCell_other _ _ _ _ (by simp)]; exact h.c0
  · rw [World.cell?_setCell_other _ _ _ _ (by simp)]; exact World.cell?_setCell_same _ _ _ h.c1
  · exact World.cell?_setCell_same _ _ _ (by rw [World.cell?_setCell_other _ _ _ _ (by simp)]; exact h.c2)
  · rw [World.frozen?_setCell, World.frozen?_setCell]; exact h.f1
  · rw [World.frozen?_setCell, World.frozen?_setCell]; exact h.f2
theorem DiskIs.book {w : World} {bb db db' mb tb : Nat} {D : DiskS} {t v : Int} (h : DiskIs w db mb tb D) (s : BookIs w bb db' t v) (hn : ¬ Own3 db mb tb bb) (t' v' : Int) : DiskIs ((w.setCell ⟨bb, 1, none⟩ (.int .u64 t')).setCell ⟨bb, 2, none⟩ (.int .i64 v')) db mb tb D :=
  (h.setOther (p := ⟨bb, 1, none⟩) _ hn (fun x e => by rw [s.c1] at e; cases e)).setOther (p := ⟨bb, 2, none⟩) _ hn (fun x e => by rw [World.cell?_setCell_other _ _ _ _ (by simp), s.c2] at e; cases e)

set_option maxHeartbeats 1600000 in
set_option maxRecDepth 20000 in
theorem vkeep_bad (bb db mb tb : Nat) (D : DiskS) (t v t' v' : Int) (w : World) (hd : DiskIs w db mb tb D) (hw : DGood D) (hs : D.steps + 4 ≤ 1000000000) (hk : BookIs w bb db t v) (hnb : ¬ Own3 db mb tb bb) (_ht0 : 0 ≤ t') (hsn : vSnd t' v' = false) :
    Calls Tryz.prog 49 #[.pointer (some ⟨bb, 0, none⟩), .agg #[.int .u64 t', .int .i64 v']] w (KeepPost bb db mb tb D t v t' v' w) := by
  have HD := Lib.hid hd
  have HW := Lib.hid hw
  have HS := Lib.hid hs
  have HNB := Lib.hid hnb
  have HK := Lib.hid hk
  have H3 := Lib.hid hd.lt3
  have HBL := Lib.hid hk.lt
  have HSN := Lib.hid hsn
  have HV : Hid (keepD D t v t' v' = (D, 2)) := Lib.hid (if_pos hsn)
  clear hsn
  clear hd hw hs hnb hk
  go_enter Tryz.func49, Tryz.ntmps49
  go_wp2_with fail
  have SX1 := Lib.hid (SC.box w t' v')
  have A1 : Hid (Below w.heap.size w (w.alloc (.cells #[.int .u64 t', .int .i64 v'] 59))) := Lib.hid ((Below.refl _ _).alloc (Nat.le_refl _) _)
  generalize World.alloc w _ = w1 at *
  have BK1 := Lib.hid (HK.out.below A1.out)
  refine (vnone bb db t v w1 BK1.out).mono ?_
  rintro e w2 ⟨rfl, rfl⟩
  obtain ⟨x0, x1, _, _⟩ := SX1.out
  go_wp2_with fail
  refine (vsound_any t' v' w1).mono ?_
  rintro e w3 ⟨rfl, hb3⟩
  have SX := Lib.hid (SX1.out.below hb3)
  have BK := Lib.hid (BK1.out.below hb3)
  have B3 : Hid (Below w.heap.size w w3) := Lib.hid (A1.out.trans (hb3.mono A1.out.size))
  rw [HSN.out]
  clear hb3 x0 x1
  go_wp2_with fail
  go_ret
  unfold KeepPost
  rw [HV.out]
  exact ⟨rfl, HD.out.below B3.out, BK.out, (Kept.below3 B3.out).mono fun k _ h => .inl h⟩

set_option maxHeartbeats 1600000 in
set_option maxRecDepth 20000 in
theorem vkeep_old (bb db mb tb : Nat) (D : DiskS) (t v t' v' : Int) (w : World) (hd : DiskIs w db mb tb D) (hw : DGood D) (hs : D.steps + 4 ≤ 1000000000) (hk : BookIs w bb db t v) (hnb : ¬ Own3 db mb tb bb) (_ht0 : 0 ≤ t') (hsn : vSnd t' v' = true) (hm : vMy t v t' v' = false) :
    Calls Tryz.prog 49 #[.pointer (some ⟨bb, 0, none⟩), .agg #[.int .u64 t', .int .i64 v']] w (KeepPost bb db mb tb D t v t' v' w) := by
  have HD := Lib.hid hd
  have HW := Lib.hid hw
  have HS := Lib.hid hs
  have HNB := Lib.hid hnb
  have HK := Lib.hid hk
  have H3 := Lib.hid hd.lt3
  have HBL := Lib.hid hk.lt
  have HSN := Lib.hid hsn
  have HM := Lib.hid hm
  have HV : Hid (keepD D t v t' v' = (D, 34)) := Lib.hid (by unfold keepD; rw [if_neg (by rw [hsn]; decide), if_pos hm])
  clear hsn hm
  clear hd hw hs hnb hk
  go_enter Tryz.func49, Tryz.ntmps49
  go_wp2_with fail
  have SX1 := Lib.hid (SC.box w t' v')
  have A1 : Hid (Below w.heap.size w (w.alloc (.cells #[.int .u64 t', .int .i64 v'] 59))) := Lib.hid ((Below.refl _ _).alloc (Nat.le_refl _) _)
  generalize World.alloc w _ = w1 at *
  have BK1 := Lib.hid (HK.out.below A1.out)
  refine (vnone bb db t v w1 BK1.out).mono ?_
  rintro e w2 ⟨rfl, rfl⟩
  obtain ⟨x0, x1, _, _⟩ := SX1.out
  go_wp2_with fail
  refine (vsound_any t' v' w1).mono ?_
  rintro e w3 ⟨rfl, hb3⟩
  have SX := Lib.hid (SX1.out.below hb3)
  have BK := Lib.hid (BK1.out.below hb3)
  have B3 : Hid (Below w.heap.size w w3) := Lib.hid (A1.out.trans (hb3.mono A1.out.size))
  rw [HSN.out]
  clear hb3 x0 x1
  go_wp2_with fail
  have ST := Stable.from w3
  refine region_start [0, 1, 3, 7, 0, 31, 63, 127] 0 (fun w' => Below w3.heap.size w3 w') (by kernel_rfl) ?_
  refine stage_heads [0, 1, 2, 3, 4] (by kernel_rfl) (L := #[true, true, true, true, true, false, false, false]) (by kernel_rfl) (f' := 3) rfl (fun _ _ _ _ h => h) (fun w o h => ST.alloc h o) (.inr (by first | exact Below.refl _ _ | exact (Below.refl _ _).drew)) ?_
  simp only [List.flatMap_cons, List.flatMap_nil, List.drop_succ_cons, List.drop_zero, List.take_succ_cons, List.take_zero, List.cons_append, List.nil_append, List.append_nil]
  iterate 5 (first | (refine heads_load _ (by rfl) (fun w' hs => by obtain ⟨b0, b1, b2, _, _⟩ := BK.out.below hs; obtain ⟨x0, x1, _, _⟩ := SX.out.below hs; go_simp; try with_reducible rfl) rfl ?_; simp only [Act.put, List.setIfInBounds_toArray, List.set_cons_zero, List.set_cons_succ]) | (refine heads_pure _ (by rfl) (fun w' => by go_simp; try with_reducible rfl) ?_; simp only [Act.put, List.setIfInBounds_toArray, List.set_cons_zero, List.set_cons_succ]))
  refine heads_nil ?_
  refine stage_op 5 (by kernel_rfl) (L := #[true, true, true, true, true, true, false, false]) (by kernel_rfl) ?_
  simp only [List.drop_succ_cons, List.drop_zero, List.take_succ_cons, List.take_zero]
  go_wp2_with fail; refine (vmay_any t v t' v' _).mono ?_; rintro e w4 ⟨rfl, hb4⟩; have I4 : Hid (Below w3.heap.size w3 w4) := Lib.hid (by first | exact hb4 | exact ((Below.refl _ _).drew).trans hb4); clear hb4; rw [HM.out]; go_wp2_with fail
  refine step_post nofun ?_
  refine stage_heads [6, 7] (by kernel_rfl) (L := #[true, true, true, true, true, true, true, true]) (by kernel_rfl) (f' := 0) rfl (fun _ _ _ _ h => h) (fun w o h => ST.alloc h o) (.inl (by kernel_rfl)) ?_
  simp only [List.flatMap_cons, List.flatMap_nil, List.drop_succ_cons, List.drop_zero, List.take_succ_cons, List.take_zero, List.cons_append, List.nil_append, List.append_nil]
  iterate 2 (refine heads_pure _ (by rfl) (fun w' => by go_simp; try with_reducible rfl) ?_; simp only [Act.put, List.setIfInBounds_toArray, List.set_cons_zero, List.set_cons_succ])
  refine heads_nil ?_
  refine stage_done (by kernel_rfl) ?_
  go_wp2_with fail
  have SX4 := Lib.hid (SX.out.below I4.out)
  have BK4 := Lib.hid (BK.out.below I4.out)
  have B4 : Hid (Below w.heap.size w w4) := Lib.hid (B3.out.trans (I4.out.mono B3.out.size))
  clear SX BK ST
  go_ret
  unfold KeepPost
  rw [HV.out]
  exact ⟨rfl, HD.out.below B4.out, BK4.out, (Kept.below3 B4.out).mono fun k _ h => .inl h⟩

set_option maxHeartbeats 1600000 in
set_option maxRecDepth 20000 in
theorem vkeep_same (bb db mb tb : Nat) (D : DiskS) (t v : Int) (w : World) (hd : DiskIs w db mb tb D) (hw : DGood D) (hs : D.steps + 4 ≤ 1000000000) (hk : BookIs w bb db t v) (hnb : ¬ Own3 db mb tb bb) (_ht0 : 0 ≤ t) (hsn : vSnd t v = true) (hm : vMy t v t v = true) :
    Calls Tryz.prog 49 #[.pointer (some ⟨bb, 0, none⟩), .agg #[.int .u64 t, .int .i64 v]] w (KeepPost bb db mb tb D t v t v w) := by
  have HD := Lib.hid hd
  have HW := Lib.hid hw
  have HS := Lib.hid hs
  have HNB := Lib.hid hnb
  have HK := Lib.hid hk
  have H3 := Lib.hid hd.lt3
  have HBL := Lib.hid hk.lt
  have HSN := Lib.hid hsn
  have HM := Lib.hid hm
  have HV : Hid (keepD D t v t v = (D, 0)) := Lib.hid (by unfold keepD; rw [if_neg (by rw [hsn]; decide), if_neg (by rw [hm]; decide), if_pos ⟨rfl, rfl⟩])
  clear hsn hm
  clear hd hw hs hnb hk
  go_enter Tryz.func49, Tryz.ntmps49
  go_wp2_with fail
  have SX1 := Lib.hid (SC.box w t v)
  have A1 : Hid (Below w.heap.size w (w.alloc (.cells #[.int .u64 t, .int .i64 v] 59))) := Lib.hid ((Below.refl _ _).alloc (Nat.le_refl _) _)
  generalize World.alloc w _ = w1 at *
  have BK1 := Lib.hid (HK.out.below A1.out)
  refine (vnone bb db t v w1 BK1.out).mono ?_
  rintro e w2 ⟨rfl, rfl⟩
  obtain ⟨x0, x1, _, _⟩ := SX1.out
  go_wp2_with fail
  refine (vsound_any t v w1).mono ?_
  rintro e w3 ⟨rfl, hb3⟩
  have SX := Lib.hid (SX1.out.below hb3)
  have BK := Lib.hid (BK1.out.below hb3)
  have B3 : Hid (Below w.heap.size w w3) := Lib.hid (A1.out.trans (hb3.mono A1.out.size))
  rw [HSN.out]
  clear hb3 x0 x1
  go_wp2_with fail
  have ST := Stable.from w3
  refine region_start [0, 1, 3, 7, 0, 31, 63, 127] 0 (fun w' => Below w3.heap.size w3 w') (by kernel_rfl) ?_
  refine stage_heads [0, 1, 2, 3, 4] (by kernel_rfl) (L := #[true, true, true, true, true, false, false, false]) (by kernel_rfl) (f' := 3) rfl (fun _ _ _ _ h => h) (fun w o h => ST.alloc h o) (.inr (by first | exact Below.refl _ _ | exact (Below.refl _ _).drew)) ?_
  simp only [List.flatMap_cons, List.flatMap_nil, List.drop_succ_cons, List.drop_zero, List.take_succ_cons, List.take_zero, List.cons_append, List.nil_append, List.append_nil]
  iterate 5 (first | (refine heads_load _ (by rfl) (fun w' hs => by obtain ⟨b0, b1, b2, _, _⟩ := BK.out.below hs; obtain ⟨x0, x1, _, _⟩ := SX.out.below hs; go_simp; try with_reducible rfl) rfl ?_; simp only [Act.put, List.setIfInBounds_toArray, List.set_cons_zero, List.set_cons_succ]) | (refine heads_pure _ (by rfl) (fun w' => by go_simp; try with_reducible rfl) ?_; simp only [Act.put, List.setIfInBounds_toArray, List.set_cons_zero, List.set_cons_succ]))
  refine heads_nil ?_
  refine stage_op 5 (by kernel_rfl) (L := #[true, true, true, true, true, true, false, false]) (by kernel_rfl) ?_
  simp only [List.drop_succ_cons, List.drop_zero, List.take_succ_cons, List.take_zero]
  go_wp2_with fail; refine (vmay_any t v t v _).mono ?_; rintro e w4 ⟨rfl, hb4⟩; have I4 : Hid (Below w3.heap.size w3 w4) := Lib.hid (by first | exact hb4 | exact ((Below.refl _ _).drew).trans hb4); clear hb4; rw [HM.out]; go_wp2_with fail
  refine step_post nofun ?_
  refine stage_heads [6, 7] (by kernel_rfl) (L := #[true, true, true, true, true, true, true, true]) (by kernel_rfl) (f' := 0) rfl (fun _ _ _ _ h => h) (fun w o h => ST.alloc h o) (.inl (by kernel_rfl)) ?_
  simp only [List.flatMap_cons, List.flatMap_nil, List.drop_succ_cons, List.drop_zero, List.take_succ_cons, List.take_zero, List.cons_append, List.nil_append, List.append_nil]
  iterate 2 (refine heads_pure _ (by rfl) (fun w' => by go_simp; try with_reducible rfl) ?_; simp only [Act.put, List.setIfInBounds_toArray, List.set_cons_zero, List.set_cons_succ])
  refine heads_nil ?_
  refine stage_done (by kernel_rfl) ?_
  go_wp2_with fail
  have SX4 := Lib.hid (SX.out.below I4.out)
  have BK4 := Lib.hid (BK.out.below I4.out)
  have B4 : Hid (Below w.heap.size w w4) := Lib.hid (B3.out.trans (I4.out.mono B3.out.size))
  clear SX BK ST
  have ST4 := Stable.from w4
  refine region_start [0, 0, 2, 6, 14, 31, 63] 0 (fun w' => Below w4.heap.size w4 w') (by kernel_rfl) ?_
  refine stage_heads [0, 1, 2, 3, 4, 5, 6] (by kernel_rfl) (L := #[true, true, true, true, true, true, true]) (by kernel_rfl) (f' := 0) rfl (fun _ _ _ _ h => h) (fun w o h => ST4.alloc h o) (.inr (by first | exact Below.refl _ _ | exact (Below.refl _ _).drew)) ?_
  simp only [List.flatMap_cons, List.flatMap_nil, List.drop_succ_cons, List.drop_zero, List.take_succ_cons, List.take_zero, List.cons_append, List.nil_append, List.append_nil]
  iterate 7 (first | (refine heads_load _ (by rfl) (fun w' hs => by obtain ⟨b0, b1, b2, _, _⟩ := BK4.out.below hs; obtain ⟨x0, x1, _, _⟩ := SX4.out.below hs; go_simp; try with_reducible rfl) rfl ?_; simp only [Act.put, List.setIfInBounds_toArray, List.set_cons_zero, List.set_cons_succ]) | (refine heads_pure _ (by rfl) (fun w' => by go_simp; try with_reducible rfl) ?_; simp only [Act.put, List.setIfInBounds_toArray, List.set_cons_zero, List.set_cons_succ]))
  refine heads_nil ?_
  refine stage_done (by kernel_rfl) ?_
  have B5 : Hid (Below w.heap.size w w4.drew) := Lib.hid B4.out.drew
  have SX5 : Hid (SC w4.drew w.heap.size t v) := Lib.hid (SX4.out.below ((Below.refl _ _).drew))
  have BK5 : Hid (BookIs w4.drew bb db t v) := Lib.hid (BK4.out.below ((Below.refl _ _).drew))
  generalize w4.drew = w5 at *
  clear SX4 BK4 ST4
  obtain ⟨x0, x1, _, _⟩ := SX5.out
  go_wp2_with fail
  go_ret
  unfold KeepPost
  rw [HV.out]
  exact ⟨rfl, HD.out.below B5.out, BK5.out, (Kept.below3 B5.out).mono fun k _ h => .inl h⟩

set_option maxHeartbeats 1600000 in
set_option maxRecDepth 20000 in
theorem vkeep_new (bb db mb tb : Nat) (D : DiskS) (t v t' v' : Int) (w : World) (hd : DiskIs w db mb tb D) (hw : DGood D) (hs : D.steps + 4 ≤ 1000000000) (hk : BookIs w bb db t v) (hnb : ¬ Own3 db mb tb bb) (ht0 : 0 ≤ t') (hsn : vSnd t' v' = true) (hm : vMy t v t' v' = true) (he : ¬ (t' = t ∧ v' = v)) :
    Calls Tryz.prog 49 #[.pointer (some ⟨bb, 0, none⟩), .agg #[.int .u64 t', .int .i64 v']] w (KeepPost bb db mb tb D t v t' v' w) := by
  have HD := Lib.hid hd
  have HW := Lib.hid hw
  have HS := Lib.hid hs
  have HNB := Lib.hid hnb
  have HK := Lib.hid hk
  have H3 := Lib.hid hd.lt3
  have HBL := Lib.hid hk.lt
  have HSN := Lib.hid hsn
  have HM := Lib.hid hm
  have HV : Hid (keepD D t v t' v' = vwriteD D (frP 3 (numsW [t'.toNat, (v' + 1).toNat]))) := Lib.hid (by unfold keepD; rw [if_neg (by rw [hsn]; decide), if_neg (by rw [hm]; decide), if_neg he])
  have HQ : Hid (∀ (A B : Result Next), (if t' = t then (if v' = v then A else B) else B) = B) := Lib.hid (fun A B => by
    by_cases h1 : t' = t
    · have h2 : ¬ v' = v := fun h => he ⟨h1, h⟩
      rw [if_pos h1, if_neg h2]
    · rw [if_neg h1])
  have HBY : Hid (∀ W : World, Calls Tryz.prog 97 #[.agg #[.int .u64 t', .int .i64 v']] W fun e W' => ∃ bv, e = .returned bv ∧ Bytes W' bv (frP 3 (numsW [t'.toNat, (v' + 1).toNat])) ∧ Below W.heap.size W W' ∧ ∀ g, bv.ownBlock = some g → W.heap.size ≤ g) := Lib.hid (fun W => by
    have h := hsn
    unfold vSnd at h
    simp only [Bool.and_eq_true, decide_eq_true_eq] at h
    have h1 := vbytes_any t'.toNat (v' + 1).toNat W (by omega) (by omega)
    rw [show ((t'.toNat : Nat) : Int) = t' by omega, show (((v' + 1).toNat : Nat) : Int) - 1 = v' by omega] at h1
    exact h1)
  clear he
  clear hsn hm
  clear hd hw hs hnb hk
  go_enter Tryz.func49, Tryz.ntmps49
  go_wp2_with fail
  have SX1 := Lib.hid (SC.box w t' v')
  have A1 : Hid (Below w.heap.size w (w.alloc (.cells #[.int .u64 t', .int .i64 v'] 59))) := Lib.hid ((Below.refl _ _).alloc (Nat.le_refl _) _)
  generalize World.alloc w _ = w1 at *
  have BK1 := Lib.hid (HK.out.below A1.out)
  refine (vnone bb db t v w1 BK1.out).mono ?_
  rintro e w2 ⟨rfl, rfl⟩
  obtain ⟨x0, x1, _, _⟩ := SX1.out
  go_wp2_with fail
  refine (vsound_any t' v' w1).mono ?_
  rintro e w3 ⟨rfl, hb3⟩
  have SX := Lib.hid (SX1.out.below hb3)
  have BK := Lib.hid (BK1.out.below hb3)
  have B3 : Hid (Below w.heap.size w w3) := Lib.hid (A1.out.trans (hb3.mono A1.out.size))
  rw [HSN.out]
  clear hb3 x0 x1
  go_wp2_with fail
  have ST := Stable.from w3
  refine region_start [0, 1, 3, 7, 0, 31, 63, 127] 0 (fun w' => Below w3.heap.size w3 w') (by kernel_rfl) ?_
  refine stage_heads [0, 1, 2, 3, 4] (by kernel_rfl) (L := #[true, true, true, true, true, false, false, false]) (by kernel_rfl) (f' := 3) rfl (fun _ _ _ _ h => h) (fun w o h => ST.alloc h o) (.inr (by first | exact Below.refl _ _ | exact (Below.refl _ _).drew)) ?_
  simp only [List.flatMap_cons, List.flatMap_nil, List.drop_succ_cons, List.drop_zero, List.take_succ_cons, List.take_zero, List.cons_append, List.nil_append, List.append_nil]
  iterate 5 (first | (refine heads_load _ (by rfl) (fun w' hs => by obtain ⟨b0, b1, b2, _, _⟩ := BK.out.below hs; obtain ⟨x0, x1, _, _⟩ := SX.out.below hs; go_simp; first | with_reducible rfl | exact HQ.out _ _ | skip) rfl ?_; simp only [Act.put, List.setIfInBounds_toArray, List.set_cons_zero, List.set_cons_succ]) | (refine heads_pure _ (by rfl) (fun w' => by go_simp; first | with_reducible rfl | exact HQ.out _ _ | skip) ?_; simp only [Act.put, List.setIfInBounds_toArray, List.set_cons_zero, List.set_cons_succ]))
  refine heads_nil ?_
  refine stage_op 5 (by kernel_rfl) (L := #[true, true, true, true, true, true, false, false]) (by kernel_rfl) ?_
  simp only [List.drop_succ_cons, List.drop_zero, List.take_succ_cons, List.take_zero]
  go_wp2_with fail; refine (vmay_any t v t' v' _).mono ?_; rintro e w4 ⟨rfl, hb4⟩; have I4 : Hid (Below w3.heap.size w3 w4) := Lib.hid (by first | exact hb4 | exact ((Below.refl _ _).drew).trans hb4); clear hb4; rw [HM.out]; go_wp2_with fail
  refine step_post nofun ?_
  refine stage_heads [6, 7] (by kernel_rfl) (L := #[true, true, true, true, true, true, true, true]) (by kernel_rfl) (f' := 0) rfl (fun _ _ _ _ h => h) (fun w o h => ST.alloc h o) (.inl (by kernel_rfl)) ?_
  simp only [List.flatMap_cons, List.flatMap_nil, List.drop_succ_cons, List.drop_zero, List.take_succ_cons, List.take_zero, List.cons_append, List.nil_append, List.append_nil]
  iterate 2 (refine heads_pure _ (by rfl) (fun w' => by go_simp; first | with_reducible rfl | exact HQ.out _ _ | skip) ?_; simp only [Act.put, List.setIfInBounds_toArray, List.set_cons_zero, List.set_cons_succ])
  refine heads_nil ?_
  refine stage_done (by kernel_rfl) ?_
  go_wp2_with fail
  have SX4 := Lib.hid (SX.out.below I4.out)
  have BK4 := Lib.hid (BK.out.below I4.out)
  have B4 : Hid (Below w.heap.size w w4) := Lib.hid (B3.out.trans (I4.out.mono B3.out.size))
  clear SX BK ST
  have ST4 := Stable.from w4
  refine region_start [0, 0, 2, 6, 14, 31, 63] 0 (fun w' => Below w4.heap.size w4 w') (by kernel_rfl) ?_
  refine stage_heads [0, 1, 2, 3, 4, 5, 6] (by kernel_rfl) (L := #[true, true, true, true, true, true, true]) (by kernel_rfl) (f' := 0) rfl (fun _ _ _ _ h => h) (fun w o h => ST4.alloc h o) (.inr (by first | exact Below.refl _ _ | exact (Below.refl _ _).drew)) ?_
  simp only [List.flatMap_cons, List.flatMap_nil, List.drop_succ_cons, List.drop_zero, List.take_succ_cons, List.take_zero, List.cons_append, List.nil_append, List.append_nil]
  iterate 7 (first | (refine heads_load _ (by rfl) (fun w' hs => by obtain ⟨b0, b1, b2, _, _⟩ := BK4.out.below hs; obtain ⟨x0, x1, _, _⟩ := SX4.out.below hs; go_simp; first | with_reducible rfl | exact HQ.out _ _ | skip) rfl ?_; simp only [Act.put, List.setIfInBounds_toArray, List.set_cons_zero, List.set_cons_succ]) | (refine heads_pure _ (by rfl) (fun w' => by go_simp; first | with_reducible rfl | exact HQ.out _ _ | skip) ?_; simp only [Act.put, List.setIfInBounds_toArray, List.set_cons_zero, List.set_cons_succ]))
  refine heads_nil ?_
  refine stage_done (by kernel_rfl) ?_
  have B5 : Hid (Below w.heap.size w w4.drew) := Lib.hid B4.out.drew
  have SX5 : Hid (SC w4.drew w.heap.size t' v') := Lib.hid (SX4.out.below ((Below.refl _ _).drew))
  have BK5 : Hid (BookIs w4.drew bb db t v) := Lib.hid (BK4.out.below ((Below.refl _ _).drew))
  generalize w4.drew = w5 at *
  clear SX4 BK4 ST4
  obtain ⟨x0, x1, _, _⟩ := SX5.out
  go_wp2_with fail
  refine (HBY.out w5).mono ?_
  rintro e w6 ⟨bv, rfl, hBy, hb6, ho6⟩
  have BV := Lib.hid hBy
  have HO : Hid (∀ g, bv.ownBlock = some g → ¬ Own3 db mb tb g) := Lib.hid (fun g hg h => by have h1 := H3.out _ h; have h2 := ho6 g hg; have h3 := B5.out.size; omega)
  have SX6 := Lib.hid (SX5.out.below hb6)
  have BK6 := Lib.hid (BK5.out.below hb6)
  have B6 : Hid (Below w.heap.size w w6) := Lib.hid (B5.out.trans (hb6.mono B5.out.size))
  clear hBy hb6 ho6 x0 x1
  generalize frP 3 (numsW [t'.toNat, (v' + 1).toNat]) = L at *
  obtain ⟨av, nv, cv, rfl⟩ : ∃ a n c, bv = Value.slice a n c := by obtain ⟨a, c, e, _⟩ := BV.out.shape; exact ⟨a, _, c, e⟩
  go_wp2_with fail
  refine (vwrite_any bb db mb tb D _ L w6 (HD.out.below B6.out) HW.out HS.out BK6.out.c0 HNB.out BV.out HO.out).mono ?_
  rintro e w7 ⟨rfl, hd7, hk7⟩
  obtain ⟨r, hr⟩ : ∃ r, vwriteD D L = r := ⟨_, rfl⟩
  obtain ⟨D2, e2⟩ := r
  have HVV : Hid (keepD D t v t' v' = (D2, e2)) := Lib.hid (HV.out.trans hr)
  rw [hr] at hd7 ⊢
  have D7 := Lib.hid hd7
  have NS : Hid (¬ Own3 db mb tb w.heap.size) := Lib.hid (fun h => by have := H3.out _ h; omega)
  have SX7 := Lib.hid (SX6.out.kept hk7 NS.out)
  have BK7 := Lib.hid (BK6.out.kept hk7 HNB.out)
  have K7 : Hid (Kept w w7 (Own3 db mb tb)) := Lib.hid ((Kept.below3 B6.out).trans hk7)
  clear hd7 hk7 hr
  obtain ⟨x0, x1, _, _⟩ := SX7.out
  obtain ⟨b0, b1, b2, g1, g2⟩ := BK7.out
  by_cases he : e2 = 0
  · subst he
    have BK8 := Lib.hid (BK7.out.set t' v')
    have D8 := Lib.hid (D7.out.book BK7.out HNB.out t' v')
    have K8 : Hid (Kept w ((w7.setCell ⟨bb, 1, none⟩ (.int .u64 t')).setCell ⟨bb, 2, none⟩ (.int .i64 v')) (fun k => Own3 db mb tb k ∨ k = bb)) := Lib.hid ((K7.out.mono fun k _ h => .inl h).trans (((Kept.setCell w7 ⟨bb, 1, none⟩ _).trans (Kept.setCell _ ⟨bb, 2, none⟩ _)).mono fun k _ h => .inr h))
    go_wp2_with fail
    go_ret
    unfold KeepPost
    rw [HVV.out]
    exact ⟨rfl, D8.out, BK8.out, K8.out⟩
  · have heb : ((e2 : Int) != 0) = true := by simp; omega
    have HE := Lib.hid he
    clear he
    go_wp2_with fail
    go_ret
    unfold KeepPost
    rw [HVV.out]
    exact ⟨rfl, D7.out, by rw [if_neg HE.out, if_neg HE.out]; exact BK7.out, K7.out.mono fun k _ h => .inl h⟩

theorem vkeep_any (bb db mb tb : Nat) (D : DiskS) (t v t' v' : Int) (w : World) (hd : DiskIs w db mb tb D) (hw : DGood D) (hs : D.steps + 4 ≤ 1000000000) (hk : BookIs w bb db t v) (hnb : ¬ Own3 db mb tb bb) (ht0 : 0 ≤ t') :
    Calls Tryz.prog 49 #[.pointer (some ⟨bb, 0, none⟩), .agg #[.int .u64 t', .int .i64 v']] w (KeepPost bb db mb tb D t v t' v' w) := by
  cases hsn : vSnd t' v'
  · exact vkeep_bad bb db mb tb D t v t' v' w hd hw hs hk hnb ht0 hsn
  · cases hm : vMy t v t' v'
    · exact vkeep_old bb db mb tb D t v t' v' w hd hw hs hk hnb ht0 hsn hm
    · by_cases he : t' = t ∧ v' = v
      · obtain ⟨rfl, rfl⟩ := he
        exact vkeep_same bb db mb tb D _ _ w hd hw hs hk hnb ht0 hsn hm
      · exact vkeep_new bb db mb tb D t v t' v' w hd hw hs hk hnb ht0 hsn hm he
end Go.Proofs.YtofhccpagnkalaaGreat
