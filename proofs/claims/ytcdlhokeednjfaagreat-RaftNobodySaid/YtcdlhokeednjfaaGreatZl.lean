/- A runner: what the machine's steps mean; over any program; no conditions. -/
import Derived.Test.YtcdlhokeednjfaaGreatZk
namespace Go.Proofs.Rn
open Go Go.RowKit Go.Proofs.Own

def Ac.Wf (a : Ac) (h : Hp) : Prop := ∀ i v, a.tm.get i = some v → i < a.nt ∧ v.wf h.n h.zn
def den0 (E : En) : Option V → Value
  | some v => v.den E
  | none => undef
def Ac.act (E : En) (a : Ac) : Act := ⟨((List.range a.nt).map fun i => den0 E (a.tm.get i)).toArray, []⟩
section
variable {P : Program} {tt : TypeId → Option TJ} {ft : FuncId → Option FI} {hk : FuncId → List V → Hp → Option (V × Hp)} {w0 w : World} {Q : Exit → Act → World → Prop} {E E' : En} {a a' : Ac} {h h' : Hp}
theorem act_get (E : En) (a : Ac) (i : Nat) : (a.act E).tmps[i]? = if i < a.nt then some (den0 E (a.tm.get i)) else none := by
  unfold Ac.act
  simp only [List.getElem?_toArray, List.getElem?_map]
  by_cases hi : i < a.nt
  · rw [List.getElem?_range hi, if_pos hi]; rfl
  · rw [List.getElem?_eq_none (by simpa using hi), if_neg hi]; rfl
theorem act_eval (ha : a.Wf h) (E : En) (x : Operand) : (a.act E).eval x = (a.ev x).den E := by
  cases x with
  | tmp t =>
    show (a.act E).tmps.getD t undef = _
    rw [Array.getD_eq_getD_getElem?, act_get]
    simp only [Ac.ev]
    split
    · cases e : a.tm.get t with
      | none => simp [den0, V.den]
      | some v => simp [den0]
    · rename_i hi
      cases e : a.tm.get t with
      | none => simp [V.den]
      | some v => exact absurd (ha t v e).1 hi
  | const v => simp only [Ac.ev, constV_den]; rfl
  | global g => simp only [Ac.ev, V.den]; rfl
  | func f => simp only [Ac.ev, V.den, V.denL]; rfl
theorem ev_wf (ha : a.Wf h) (x : Operand) : (a.ev x).wf h.n h.zn := by
  cases x with
  | tmp t =>
    simp only [Ac.ev]
    split
    · rename_i e
      exact (ha _ _ e).2
    · simp only [V.wf]
  | const v => exact constV_wf _ _ _
  | global g => simp only [Ac.ev, V.wf]
  | func f => simp only [Ac.ev, V.wf, V.wfL, and_self]
theorem act_put (E : En) (a : Ac) (d : Option Tmp) (v : V) : (a.put d v).act E = (a.act E).put d (v.den E) := by
  cases d with
  | none => rfl
  | some k =>
    unfold Ac.put
    simp only
    split
    · rename_i hk
      simp only [Nat.blt_eq] at hk
      unfold Act.put
      simp only [Ac.act, Act.mk.injEq, and_true]
      apply Array.ext_getElem?
      intro i
      have h1 := act_get E ⟨a.tm.put k v, a.nt, a.pls⟩ i
      have h2 := act_get E a i
      simp only [Ac.act] at h1 h2
      rw [h1, Array.getElem?_setIfInBounds, h2]
      by_cases q : k = i
      · subst q
        rw [if_pos hk, if_pos rfl, Tr.get_put]
        simp [den0, hk]
      · rw [if_neg q, Tr.get_put_ne _ _ (Ne.symm q)]
    · rename_i hk
      unfold Act.put
      have hlt : ¬ k < a.nt := fun q => by rw [← Nat.blt_eq] at q; rw [q] at hk; cases hk
      have hs : (a.act E).tmps.size = a.nt := by simp [Ac.act]
      simp only
      rw [Array.setIfInBounds_eq_of_size_le (show (a.act E).tmps.size ≤ k by rw [hs]; exact Nat.le_of_not_lt hlt)]
theorem put_wf {v : V} (ha : a.Wf h) (hv : v.wf h.n h.zn) (d : Option Tmp) : (a.put d v).Wf h := by
  cases d with
  | none => exact ha
  | some k =>
    unfold Ac.put
    simp only
    split
    · rename_i hk
      simp only [Nat.blt_eq] at hk
      intro i u hu
      simp only at hu ⊢
      by_cases q : i = k
      · subst q
        rw [Tr.get_put] at hu
        cases hu
        exact ⟨hk, hv⟩
      · rw [Tr.get_put_ne _ _ q] at hu
        exact ha i u hu
    · exact ha
theorem wf_mono (ha : a.Wf h) (h1 : h.n ≤ h'.n) (h2 : h.zn ≤ h'.zn) : a.Wf h' := fun i v hv => ⟨(ha i v hv).1, V.wf_mono h1 h2 v (ha i v hv).2⟩
theorem act_ext (ha : a.Wf h) (x : Ext h.n h.zn E E') : a.act E' = a.act E := by
  unfold Ac.act
  congr 2
  refine List.map_congr_left fun i _ => ?_
  cases e : a.tm.get i with
  | none => rfl
  | some v => exact V.den_ext x v (ha i v e).2
theorem want_den {l : List Oper} {o : Oper} {x : Bool} (h : wantV l a o = some x) : Region.wanted o (yielded l.toArray (a.act E).tmps) = x := by
  unfold wantV at h
  unfold Region.wanted
  split at h
  · rename_i hg
    rw [hg]
    cases h; rfl
  · rename_i j b hg
    rw [hg]
    split at h
    · rename_i g hj
      split at h
      · rename_i d hd
        split at h
        · rename_i y hy
          split at h
          · rename_i hdn
            cases h
            simp only [Nat.blt_eq] at hdn
            rw [lget_eq] at hj
            simp only [yielded, List.getElem?_toArray, hj, Option.bind_some, hd, act_get, hdn, if_true, hy, den0, V.den]
            cases y <;> cases b <;> rfl
          · cases h
        · rename_i y hy
          cases h
          rw [lget_eq] at hj
          simp only [yielded, List.getElem?_toArray, hj, Option.bind_some, hd, act_get, hy, den0, V.den]
          split <;> rename_i e <;> first | rfl | (split at e <;> cases e)
        · rename_i hy
          cases h
          rw [lget_eq] at hj
          simp only [yielded, List.getElem?_toArray, hj, Option.bind_some, hd, act_get, hy, den0]
          split <;> rename_i e <;> first | rfl | (split at e <;> cases e)
        · cases h
      · cases h
    · cases h
/-- What is read ahead stands. -/
def HoldE (E : En) (n0 b lo hi : Nat) (v : World) : Ent → Prop
  | .cells l _ => (E.B b).1 < v.heap.size ∧ ∀ (j : Nat) x, lo ≤ j → j < hi → l[j]? = some x → v.cell? (E.at b j) = some (x.den E)
  | e => EntOk E n0 b v e
def Hold (E : En) (w0 : World) (h : Hp) (fz : List (Nat × Nat × Nat)) (v : World) : Prop := ∀ i ∈ fz, ∀ e, h.get i.1 = some e → HoldE E w0.heap.size i.1 i.2.1 i.2.2 v e
theorem EntOk.hold {n0 b lo hi : Nat} {v : World} {e : Ent} (he : EntOk E n0 b v e) : HoldE E n0 b lo hi v e := by
  cases e with
  | cells l u => exact ⟨he.2.1, fun j x _ _ hx => (he.2.2.1 j x hx).1⟩
  | _ => exact he
theorem HoldE.ent {n0 b lo hi : Nat} {v : World} {e : Ent} (he : HoldE E n0 b lo hi v e) (hc : ∀ l u, e ≠ .cells l u) : EntOk E n0 b v e := by
  cases e with
  | cells l u => exact absurd rfl (hc l u)
  | _ => exact he
theorem Gd.hold (g : Gd E w0 h w) (fz : List (Nat × Nat × Nat)) : Hold E w0 h fz w := fun _ _ _ he => (g.ent he).hold
theorem Hold.alloc {fz : List (Nat × Nat × Nat)} {v : World} (hh : Hold E w0 h fz v) (o : Obj) : Hold E w0 h fz (v.alloc o) := fun i hi e he => by
  have := hh i hi e he
  have hk : ∀ b, b < v.heap.size → (v.alloc o).heap[b]? = v.heap[b]? := fun b hb => (Kept.alloc v o (fun _ => False)).block _ hb id
  cases e with
  | cells l u =>
    refine ⟨Nat.lt_of_lt_of_le this.1 (by simp), fun j x h1 h2 hx => ?_⟩
    rw [World.cell?_of_block (a := E.at i.1 j) (hk _ this.1)]
    exact this.2 j x h1 h2 hx
  | _ =>
    have this := HoldE.ent this nofun
    exact EntOk.hold (EntOk.kept this (by simp) fun hd => hk _ (EntOk.lt this hd).2)
theorem Hold.sub {fz fz' : List (Nat × Nat × Nat)} {v : World} (hh : Hold E w0 h fz v) (hs : ∀ i ∈ fz', i ∈ fz) : Hold E w0 h fz' v := fun i hi => hh i (hs i hi)
theorem Ext.symm {n zn : Nat} (x : Ext n zn E E') : Ext n zn E' E := ⟨fun i hi => (x.B i hi).symm, fun i hi => (x.C i hi).symm, fun i hi => (x.Z i hi).symm⟩
theorem Hold.back {fz : List (Nat × Nat × Nat)} {v : World} (hw : h.Wf) (x : Ext h.n h.zn E E') (hf : ∀ i ∈ fz, SameE i.2.1 i.2.2 (h.get i.1) (h'.get i.1)) (hh : Hold E' w0 h' fz v) : Hold E w0 h fz v := fun i hi e he => by
  have hs := hf i hi
  rw [he] at hs
  have hn := hw.lt he
  have hwf := hw.wf he
  cases e with
  | cells l u =>
    cases e2 : h'.get i.1 with
    | none => rw [e2] at hs; cases hs
    | some e' =>
      rw [e2] at hs
      cases e' with
      | cells l' u' =>
        have := hh i hi _ e2
        have hB := x.B i.1 hn
        refine ⟨by rw [← hB]; exact this.1, fun j y h1 h2 hy => ?_⟩
        have h3 := this.2 j y h1 h2 ((hs j h1 h2).trans hy)
        rw [V.den_ext x y (wfL_iff.1 hwf y (List.mem_of_getElem? hy))] at h3
        rw [show E'.at i.1 j = E.at i.1 j by simp only [En.at, hB]] at h3
        exact h3
      | _ => cases hs
  | _ =>
    have this := HoldE.ent (hh i hi _ hs) nofun
    exact EntOk.hold (EntOk.ext x.symm hn hwf this)
/-- A loop that comes to an end. -/
inductive LW (P : Program) (c : Code) (Q : Exit → Act → World → Prop) : Act → World → Prop where
  | mk {a : Act} {w : World} (f : Frame → List Item → List Frame → Exit × Act × World) (hn : ∀ b k cs, (f b k cs).1 = .normal → LW P c Q (f b k cs).2.1 (f b k cs).2.2) (ho : ∀ b k cs, (f b k cs).1 ≠ .normal → Q (f b k cs).1 (f b k cs).2.1 (f b k cs).2.2)
      (ha : ∀ b k cs, Arrives P (lone (b.at a (.code c :: k)) cs w) b k cs (f b k cs).1 (f b k cs).2.1 (f b k cs).2.2) : LW P c Q a w
theorem LW.of {c : Code} {Q : Exit → Act → World → Prop} {a : Act} {w : World} (h : c.wp P (Exit.then (LW P c Q) Q) a w) : LW P c Q a w := by
  have h2 : ∀ b k cs, ∃ r : Exit × Act × World, Exit.then (LW P c Q) Q r.1 r.2.1 r.2.2 ∧ Arrives P (lone (b.at a (.code c :: k)) cs w) b k cs r.1 r.2.1 r.2.2 := fun b k cs => let ⟨e, a', w', q, r⟩ := h b k cs; ⟨(e, a', w'), q, r⟩
  refine LW.mk (fun b k cs => Classical.choose (h2 b k cs)) (fun b k cs hn => ?_) (fun b k cs hn => ?_) fun b k cs => (Classical.choose_spec (h2 b k cs)).2
  · have := (Classical.choose_spec (h2 b k cs)).1
    rw [hn] at this
    exact this
  · have := (Classical.choose_spec (h2 b k cs)).1
    revert this hn
    generalize Classical.choose (h2 b k cs) = r
    obtain ⟨e, a', w'⟩ := r
    intro hn hq
    cases e <;> first | exact absurd rfl hn | exact hq
theorem LW.wp {c : Code} {Q : Exit → Act → World → Prop} {a : Act} {w : World} (h : LW P c Q a w) : (Code.loop c).wp P Q a w := by
  intro b k cs
  have key : ∃ e a' w', Q e a' w' ∧ Arrives P (lone (b.at a (.code c :: .inLoop c :: k)) cs w) b k cs e a' w' := by
    induction h with
    | @mk a w f hn ho ha ih =>
      have harr := ha b (.inLoop c :: k) cs
      have hq := ho b (.inLoop c :: k) cs
      have ihh := ih b (.inLoop c :: k) cs
      generalize f b (.inLoop c :: k) cs = r at harr hq ihh
      obtain ⟨e, a₁, w₁⟩ := r
      simp only at harr hq ihh
      cases e with
      | normal =>
        obtain ⟨e₂, a₂, w₂, hq₂, harr₂⟩ := ihh rfl
        exact ⟨e₂, a₂, w₂, hq₂, .of_steps (Steps.trans harr (.one step_inLoop)) harr₂⟩
      | exit id => exact ⟨_, a₁, w₁, hq nofun, .pass (x := .inLoop c) rfl (fun _ _ => .inl (by simp)) harr⟩
      | goto l => exact ⟨_, a₁, w₁, hq nofun, .pass (x := .inLoop c) rfl (fun _ _ => .inl (by simp)) harr⟩
      | ret => exact ⟨_, a₁, w₁, hq nofun, .pass (x := .inLoop c) rfl (fun _ _ => .inl (by simp)) harr⟩
      | panic ch => exact ⟨_, a₁, w₁, hq nofun, .pass (x := .inLoop c) rfl (fun _ _ => .inl (by simp)) harr⟩
      | outgrown => exact ⟨_, a₁, w₁, hq nofun, .pass (x := .inLoop c) rfl (fun _ _ => .inl (by simp)) harr⟩
  obtain ⟨e, a', w', hq, harr⟩ := key
  exact ⟨e, a', w', hq, .of_steps (.one step_loop) harr⟩
/-- What is left of a call, at some act. -/
def ContP (P : Program) (S : World → Prop) (L : Array Bool) (K : Exit → Act → World → Prop) : Cf → Act → World → Prop
  | .ops l r, a, w => wpList P l.toArray K r a w
  | .pl l p st _ ok, a, w => (ok = true → S w) ∧ Own.Rest P l.toArray p.M p.J S K (planN st) L a w
  | _, _, _ => False
def fzC : Cf → List (Nat × Nat × Nat) → List (Nat × Nat × Nat)
  | .pl _ _ _ fz _, _ => fz
  | .pw _ _ _ _ fz _, _ => fz
  | _, fz => fz
def CfV (pls : List (Nat × Pl)) : Cf → Prop
  | .code c => plB pls c = true
  | .pl l p st _ _ => (Region.noSelect l.toArray && maskOk l.toArray p.M && planE st) = true
  | .pw l p _ st _ _ => (Region.noSelect l.toArray && maskOk l.toArray p.M && planE st) = true
  | _ => True
def CfL (L : Array Bool) : Cf → Prop
  | .pl l p st _ _ => planB l p.M p.J st L = true
  | .ops _ _ => True
  | _ => False
def SaOk (S : World → Prop) : Prop := ∀ w o, S w → S (w.alloc o)
def okC : Cf → Bool
  | .pl _ _ _ _ ok => ok
  | .pw _ _ _ _ _ ok => ok
  | _ => true
variable (P w0 Q) in
/-- What follows: a meaning of what is left to do. -/
def Kont : En → Hp → List (Nat × Nat × Nat) → List (Nat × Pl) → List KF → (Exit → Act → World → Prop) → Prop
  | _, _, _, _, [], K => K = Q
  | E, h, fz, pls, .seq c :: k, K => plB pls c = true ∧ ∃ K', Kont E h fz pls k K' ∧ K = Exit.then (fun a w => c.wp P K' a w) K'
  | E, h, fz, pls, .lp c :: k, K => plB pls c = true ∧ ∃ K', Kont E h fz pls k K' ∧ K = Exit.then (LW P c K') K'
  | E, h, fz, pls, .blk id :: k, K => ∃ K', Kont E h fz pls k K' ∧ K = Exit.inBlock id K'
  | E, h, fz, pls, .sc :: k, K => ∃ K', Kont E h fz pls k K' ∧ K = Exit.noGoto K'
  | E, h, fz, _, .fr dst cf b fn fzS :: k, K => ∃ K' S L, Kont E h (fzC cf fzS) b.pls k K' ∧ (∀ i ∈ fzC cf fzS, i ∈ fzS) ∧ (∀ i ∈ fzS, i ∈ fz) ∧ b.Wf h ∧ CfV b.pls cf ∧ CfL L cf ∧ SaOk S ∧ (okC cf = true → ∀ v, Hold E w0 h fzS v → S v) ∧
    K = bodyPost P fn (fun e w' => ∃ v, e = .returned v ∧ ContP P S L K' cf ((b.act E).put dst v) w')
theorem kont_mono (hw : h.Wf) (x : Ext h.n h.zn E E') (h1 : h.n ≤ h'.n) (h2 : h.zn ≤ h'.zn) : ∀ (k : List KF) {fz fz' : List (Nat × Nat × Nat)} {pls : List (Nat × Pl)} {K : Exit → Act → World → Prop}, (∀ i ∈ fz, SameE i.2.1 i.2.2 (h.get i.1) (h'.get i.1)) → (∀ i ∈ fz, i ∈ fz') → Kont P w0 Q E h fz pls k K → Kont P w0 Q E' h' fz' pls k K
  | [], _, _, _, _, _, _, hK => hK
  | .seq c :: k, _, _, _, _, hf, hs, ⟨hp, K', hK, e⟩ => ⟨hp, K', kont_mono hw x h1 h2 k hf hs hK, e⟩
  | .lp c :: k, _, _, _, _, hf, hs, ⟨hp, K', hK, e⟩ => ⟨hp, K', kont_mono hw x h1 h2 k hf hs hK, e⟩
  | .blk id :: k, _, _, _, _, hf, hs, ⟨K', hK, e⟩ => ⟨K', kont_mono hw x h1 h2 k hf hs hK, e⟩
  | .sc :: k, _, _, _, _, hf, hs, ⟨K', hK, e⟩ => ⟨K', kont_mono hw x h1 h2 k hf hs hK, e⟩
  | .fr dst cf b fn fzS :: k, fz, fz', _, K, hf, hs, ⟨K', S, L, hK, c1, c2, c3, c4, c5, c7, c6, e⟩ => by
    refine ⟨K', S, L, kont_mono hw x h1 h2 k (fun i hi => hf i (c2 i (c1 i hi))) (fun i hi => hi) hK, c1, fun i hi => hs i (c2 i hi), wf_mono c3 h1 h2, c4, c5, c7, fun q v hv => c6 q v (hv.back hw x fun i hi => hf i (c2 i hi)), ?_⟩
    rw [e, act_ext c3 x]
def PanOk (K : Exit → Act → World → Prop) : Prop := ∀ c (a : Act) t w, K (.panic c) { a with tmps := t } w → K (.panic c) a w
theorem kont_pan (hp : PanOk Q) : ∀ (k : List KF) {E : En} {h : Hp} {fz : List (Nat × Nat × Nat)} {pls : List (Nat × Pl)} {K : Exit → Act → World → Prop}, Kont P w0 Q E h fz pls k K → PanOk K
  | [], _, _, _, _, _, hK => by rw [show _ = Q from hK]; exact hp
  | .seq c :: k, _, _, _, _, _, ⟨_, K', hK, e⟩ => by subst e; exact fun c a t w h => kont_pan hp k hK c a t w h
  | .lp c :: k, _, _, _, _, _, ⟨_, K', hK, e⟩ => by subst e; exact fun c a t w h => kont_pan hp k hK c a t w h
  | .blk id :: k, _, _, _, _, _, ⟨K', hK, e⟩ => by subst e; exact fun c a t w h => kont_pan hp k hK c a t w h
  | .sc :: k, _, _, _, _, _, ⟨K', hK, e⟩ => by subst e; exact fun c a t w h => kont_pan hp k hK c a t w h
  | .fr dst cf b fn fzS :: k, _, _, _, _, _, ⟨K', S, L, hK, _, _, _, _, _, _, _, e⟩ => by subst e; exact fun c a t w h => h
/-- From here on all goes well. -/
def CfP (P : Program) (S : World → Prop) (K : Exit → Act → World → Prop) : Cf → Act → World → Prop
  | .code c, a, w => c.wp P K a w
  | .ops l r, a, w => wpList P l.toArray K r a w
  | .pl l p st _ _, a, w => ∀ L, planB l p.M p.J st L = true → Own.Rest P l.toArray p.M p.J S K (planN st) L a w
  | .pw l p j st _ _, a, w => ∀ L, j ∈ Region.ready .any l.toArray L → planB l p.M p.J st (L.setIfInBounds j true) = true → wpList P l.toArray (stepPost P l.toArray p.M p.J S K (planN st) (L.setIfInBounds j true) j) ((l.drop j).take 1) a w
  | .ex e, a, w => K e.out a w
variable (P w0 Q) in
def Ok (cf : Cf) (a : Ac) (h : Hp) (k : List KF) : Prop := ∀ E w K, Gd E w0 h w → a.Wf h → CfV a.pls cf → Kont P w0 Q E h (fzC cf h.fz) a.pls k K → (∀ i ∈ fzC cf h.fz, i ∈ h.fz) → ∀ S, SaOk S → (okC cf = true → ∀ v, Hold E w0 h h.fz v → S v) → CfP P S K cf (a.act E) w
variable (P tt ft hk w0 Q) in
structure Env : Prop where
  tyk : TTok P tt
  pe : ∀ t i, tt t = some i → i.eq = true → plainEq P t = true
  mix : P.follows .mixedOrders = true
  pan : PanOk Q
  fnk : ∀ f i, ft f = some i → P.funcs[f]? = some i.fn ∧ (i.fn.name == "runtime.NumGoroutine") = false ∧ ∀ c, i.fn.body = some c → plB i.pls c = true
  hok : ∀ f as h r h', hk f as h = some (r, h') → ∀ E w, Gd E w0 h w → V.wfL h.n h.zn as → (Calls P f (V.denL E as).toArray w fun e w' => ∃ E', e = .returned (r.den E') ∧ Stp w0 E h E' h' w' ∧ r.wf h'.n h'.zn) ∧ ∃ fn, P.funcs[f]? = some fn ∧ fn.body.isSome = true ∧ (fn.name == "runtime.NumGoroutine") = false
theorem run_callF {f : FuncId} {fn : Func} {args : Array Value} (hf : P.funcs[f]? = some fn) (hb : fn.body.isSome = true) (hn : (fn.name == "runtime.NumGoroutine") = false) : (callFunc f args).run P w = .ok (.enter f args) w := by
  have hnb : fn.body.isNone = false := by cases e : fn.body <;> simp_all
  unfold callFunc
  rw [Sem.run_bind]
  show Sem.run P (match P.funcs[f]? with | none => _ | some fn => _) w = _
  rw [hf]
  simp only
  rw [if_neg (by rw [hn]; decide), if_neg (by rw [hnb]; decide)]
  rfl
theorem callV_wf (ha : a.Wf h) {op : Op} {f : FuncId} {as : List V} (hc : callV a op = some (f, as)) : V.wfL h.n h.zn as := by
  cases op <;> simp only [callV] at hc <;> first | (cases hc; done) | skip
  rename_i c
  split at hc
  · rename_i x hcl
    split at hc
    · rename_i g a1 a2 hx
      cases hc
      have hwx := ev_wf ha x
      rw [hx] at hwx
      simp only [V.wf] at hwx
      refine wfL_iff.2 fun v hv => ?_
      rcases List.mem_append.1 hv with hv | hv
      · rcases List.mem_append.1 hv with hv | hv
        · exact wfL_iff.1 hwx.1 v hv
        · obtain ⟨y, _, rfl⟩ := List.mem_map.1 hv
          exact ev_wf ha y
      · exact wfL_iff.1 hwx.2 v hv
    · cases hc
  · cases hc
theorem callV_run (ha : a.Wf h) {o : Oper} {f : FuncId} {as : List V} (hc : callV a o.op = some (f, as)) {fn : Func} (hf : P.funcs[f]? = some fn) (hb : fn.body.isSome = true) (hn : (fn.name == "runtime.NumGoroutine") = false) :
    (execOp (a.act E).eval o).run P w = .ok (.enter f (V.denL E as).toArray) w ∧ V.wfL h.n h.zn as := by
  obtain ⟨dst, op, ty, pos, after, gd⟩ := o
  simp only at hc
  cases op <;> simp only [callV] at hc <;> first | (cases hc; done) | skip
  rename_i c
  split at hc
  · rename_i x hcl
    split at hc
    · rename_i g a1 a2 hx
      cases hc
      have hwx := ev_wf ha x
      rw [hx] at hwx
      simp only [V.wf] at hwx
      refine ⟨?_, wfL_iff.2 fun v hv => ?_⟩
      · simp only [execOp, resolve, hcl, act_eval ha, hx, V.den, Deferred.ofValue, Sem.run_bind, Sem.run_pure, Result.andThen_ok, invoke]
        rw [run_callF hf hb hn]
        congr 2
        simp only [denL_eq, List.map_append, List.map_map]
        rw [← Array.toList_inj]
        simp [Function.comp_def, act_eval ha]
      · rcases List.mem_append.1 hv with hv | hv
        · rcases List.mem_append.1 hv with hv | hv
          · exact wfL_iff.1 hwx.1 v hv
          · obtain ⟨y, _, rfl⟩ := List.mem_map.1 hv
            exact ev_wf ha y
        · exact wfL_iff.1 hwx.2 v hv
    · cases hc
  · cases hc
theorem op_val (B : Env P tt ft hk w0 Q) (g : Gd E w0 h w) (ha : a.Wf h) {o : Oper} {v : V} (ho : op1 P tt hk a h o.op = .val v h') {K' : Act → World → Prop} {Q' : Exit → Act → World → Prop}
    (hK : ∀ E' w', Stp w0 E h E' h' w' → v.wf h'.n h'.zn → K' ((a.act E).put o.dst (v.den E')) w') : o.wp P (a.act E) w K' Q' := by
  have hr : ∀ x, (a.act E).eval x = (a.ev x).den E := act_eval ha E
  have mem : ∀ {v}, evM tt h a.ev o.op = some (v, h') → (∀ E' w', Stp w0 E h E' h' w' → v.wf h'.n h'.zn → K' ((a.act E).put o.dst (v.den E')) w') → o.wp P (a.act E) w K' Q' := fun {v} hm hK => by
    have q := evM_ok B.tyk g (ev_wf ha) hr o hm
    obtain ⟨E', w', q1, q2, q3⟩ := q
    have := hK E' w' q1 q2
    unfold Oper.wp
    rcases q3 with q3 | ⟨q3, q4⟩
    · rw [q3]; exact this
    · rw [q3, Oper.upon_skip, ← q4]; exact this
  have rest : (match evM tt h a.ev o.op with
    | some (v, h') => O1.val v h'
    | none => match callV a o.op with
      | some (f, as) => match hk f as h with
        | some (v, h') => .val v h'
        | none => .call f as
      | none => .no) = .val v h' → o.wp P (a.act E) w K' Q' := fun ho => by
    split at ho
    · rename_i v1 h1 hm
      cases ho
      exact mem hm hK
    · split at ho
      · rename_i f as hc
        split at ho
        · rename_i v1 h1 hh
          cases ho
          have hwf := callV_wf ha hc
          obtain ⟨q1, fn, q2, q3, q4⟩ := B.hok f as h v h' hh E w g hwf
          unfold Oper.wp
          rw [(callV_run (E := E) (w := w) ha hc q2 q3 q4).1, Oper.upon_enter]
          refine q1.mono fun e w' he => ?_
          obtain ⟨E', rfl, q5, q6⟩ := he
          exact hK E' w' q5 q6
        · cases ho
      · cases ho
  unfold op1 at ho
  split at ho
  · rename_i v1 hb hq
    cases ho
    have := evQ_ok (P := P) (w := w) B.tyk B.pe (fun _ _ => True) (fun he j v _ hv => ((g.ent he).2.2.1 j v hv).1) (fun he => (g.ent he).2) (fun {i l} he => by
      have := (g.ent he)
      exact (this.2.2.2.1 rfl).1) (ev_wf ha) hr o (by
      cases o.op <;> simp [opK]) hb hq
    unfold Oper.wp
    rw [this]
    exact hK E w (Stp.refl g) (evQ_wf B.tyk (fun he => g.wf.wf he) (ev_wf ha) hq)
  · exact rest ho
theorem op_call (B : Env P tt ft hk w0 Q) (ha : a.Wf h) {o : Oper} {f : FuncId} {as : List V} (ho : op1 P tt hk a h o.op = .call f as) {i : FI} (hi : ft f = some i) {c : Code} (hc : i.fn.body = some c) {K' : Act → World → Prop} {Q' : Exit → Act → World → Prop}
    (hK : V.wfL h.n h.zn as → Calls P f (V.denL E as).toArray w fun e w' => ∃ v, e = .returned v ∧ K' ((a.act E).put o.dst v) w') : o.wp P (a.act E) w K' Q' := by
  have rest : (match evM tt h a.ev o.op with
    | some (v, h') => O1.val v h'
    | none => match callV a o.op with
      | some (f, as) => match hk f as h with
        | some (v, h') => .val v h'
        | none => .call f as
      | none => .no) = .call f as → callV a o.op = some (f, as) := fun ho => by
    split at ho
    · cases ho
    · split at ho
      · rename_i hcv
        split at ho
        · cases ho
        · cases ho; exact hcv
      · cases ho
  have hcv : callV a o.op = some (f, as) := by
    unfold op1 at ho
    split at ho
    · cases ho
    · exact rest ho
  obtain ⟨q1, q2, q3⟩ := B.fnk f i hi
  obtain ⟨r1, r2⟩ := callV_run (E := E) (w := w) ha hcv q1 (by rw [hc]; rfl) q2
  unfold Oper.wp
  rw [r1, Oper.upon_enter]
  refine (hK r2).mono fun e w' he => ?_
  obtain ⟨v, rfl, hv⟩ := he
  exact hv
end
end Go.Proofs.Rn
