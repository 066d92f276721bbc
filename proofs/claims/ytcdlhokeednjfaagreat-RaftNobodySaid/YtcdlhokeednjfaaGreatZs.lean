/- A runner: a run that stops at a call whose answer is not told; over any program; no conditions. -/
import Derived.Test.YtcdlhokeednjfaaGreatZn
namespace Go.Proofs.Rn
open Go Go.RowKit Go.Proofs.Own

section
variable (P : Program) (tt : TypeId → Option TJ) (ft : FuncId → Option FI) (hk : FuncId → List V → Hp → Option (V × Hp))
def runTo : Nat → Cf → Ac → Hp → List KF → Option (Cf × Ac × Hp × List KF)
  | 0, c, a, h, k => some (c, a, h, k)
  | n+1, c, a, h, k => match stp P tt ft hk c a h k with
    | .go c a h k => runTo n c a h k
    | _ => none
/-- A call at which a run stands. -/
structure At where
  l : List Oper
  o : Oper
  r : List Oper
  a : Ac
  h : Hp
  k : List KF
  f : FuncId
  args : List V
def atCall : Option (Cf × Ac × Hp × List KF) → Option At
  | some (.ops l (o :: r), a, h, k) => match wantV l a o, callV a o.op with
    | some true, some (f, x) => some ⟨l, o, r, a, h, k, f, x⟩
    | _, _ => none
  | _ => none
end
section
variable {P : Program} {tt : TypeId → Option TJ} {ft : FuncId → Option FI} {hk : FuncId → List V → Hp → Option (V × Hp)} {w0 : World} {Q : Exit → Act → World → Prop} {a a' : Ac} {h h' : Hp} {k k' : List KF} {c c' : Cf}
theorem runTo_ok (B : Env P tt ft hk w0 Q) : ∀ {n : Nat} {c : Cf} {a : Ac} {h : Hp} {k : List KF}, runTo P tt ft hk n c a h k = some (c', a', h', k') → Ok P w0 Q c' a' h' k' → Ok P w0 Q c a h k
  | 0, c, a, h, k, hr, hOk => by
    rw [runTo] at hr
    cases hr
    exact hOk
  | n+1, c, a, h, k, hr, hOk => by
    rw [runTo] at hr
    split at hr
    · rename_i hs
      exact stp_ok B hs (runTo_ok B hr hOk)
    · cases hr
theorem stop_ok (B : Env P tt ft hk w0 Q) {n : Nat} {t : At} (hs : atCall (runTo P tt ft hk n c a h k) = some t) {fn : Func} (hf : P.funcs[t.f]? = some fn) (hb : fn.body.isSome = true) (hn : (fn.name == "runtime.NumGoroutine") = false)
    (hcall : ∀ E w, Gd E w0 t.h w → Calls P t.f (V.denL E t.args).toArray w fun e w' => ∃ b, e = .returned (.bool b) ∧ Stp w0 E t.h E t.h w')
    (hok : ∀ b, Ok P w0 Q (.ops t.l t.r) (t.a.put t.o.dst (.b b)) t.h t.k) : Ok P w0 Q c a h k := by
  unfold atCall at hs
  split at hs
  · rename_i l o r a1 h1 k1 hrun
    split at hs
    · rename_i f x hw hc
      cases hs
      refine runTo_ok B hrun ?_
      intro E w K g ha hv hK hF S hA hS
      refine wpList_on (want_den hw) ?_
      obtain ⟨q1, _⟩ := callV_run (E := E) (w := w) ha hc hf hb hn
      unfold Oper.wp
      rw [q1, Oper.upon_enter]
      refine (hcall E w g).mono fun e w' he => ?_
      obtain ⟨b, rfl, st⟩ := he
      have hK2 := kont_mono g.wf st.ext st.n st.zn k1 (fun i hi => st.fr i hi) (fun i hi => hi) hK
      have := hok b E w' K st.gd (put_wf (wf_mono ha st.n st.zn) (by simp only [V.wf]) o.dst) trivial (by rw [put_pls]; exact hK2) (fun _ h => h) (fun _ => True) (fun _ _ _ => trivial) (fun _ _ _ => trivial)
      rw [act_put, act_ext ha st.ext] at this
      exact this
    · cases hs
  · cases hs
end
/-- The run behind the stop, at either answer. -/
def goOn (P : Program) (tt : TypeId → Option TJ) (ft : FuncId → Option FI) (hk : FuncId → List V → Hp → Option (V × Hp)) (ck : Ex → Ac → Hp → Bool) (n : Nat) (b : Bool) : Option At → Bool
  | some t => run P tt ft hk ck n (.ops t.l t.r) (t.a.put t.o.dst (.b b)) t.h t.k
  | none => false
def isTrue1 (tt : TypeId → Option TJ) (fn : Func) (e : Ex) (a : Ac) (h : Hp) : Bool := match e, resL tt a h fn.results.toList with
  | .ret, some [.b true] => true
  | .n, some [.b true] => true
  | _, _ => false
section
variable {P : Program} {tt : TypeId → Option TJ} {ft : FuncId → Option FI} {hk : FuncId → List V → Hp → Option (V × Hp)}
/-- A law that asks one thing first. -/
theorem asks_ok {f : FuncId} {i : FI} {cd : Code} {al : List V} {n m : Nat} {t : At} (w : World) (B : ∀ Q, PanOk Q → Env P tt ft hk w Q) (hi : ft f = some i) (hcd : i.fn.body = some cd) (hl : al.length ≤ i.fn.ntmps) (hw : V.wfL 0 0 al)
    (hs : atCall (runTo P tt ft hk n (.code cd) ⟨argsT al 0 .e, i.fn.ntmps, i.pls⟩ h0 []) = some t) {fn : Func} (hf : P.funcs[t.f]? = some fn) (hb : fn.body.isSome = true) (hn : (fn.name == "runtime.NumGoroutine") = false)
    (hcall : ∀ E w', Gd E w t.h w' → Calls P t.f (V.denL E t.args).toArray w' fun e w2 => ∃ b, e = .returned (.bool b) ∧ Stp w E t.h E t.h w2)
    (ht : ∀ b, goOn P tt ft hk (isTrue1 tt i.fn) m b (some t) = true) (E : En) :
    Calls P f (V.denL E al).toArray w fun e w' => e = .returned (.bool true) ∧ Below w.heap.size w w' := by
  let R : Ending → World → Prop := fun e w' => e = .returned (.bool true) ∧ Below w.heap.size w w'
  have B1 := B (bodyPost P i.fn R) fun c a t w h => h
  obtain ⟨q1, _, q3⟩ := B1.fnk f i hi
  refine calls_of_wp q1 hcd ?_
  have ok : Ok P w (bodyPost P i.fn R) (.code cd) ⟨argsT al 0 .e, i.fn.ntmps, i.pls⟩ h0 [] := stop_ok B1 hs hf hb hn hcall fun b => run_ok B1 (fun e a h hc E w' g ha => by
    have hfin : (e = .ret ∨ e = .n) ∧ resL tt a h i.fn.results.toList = some [.b true] := by
      unfold isTrue1 at hc
      split at hc
      · exact ⟨.inl rfl, by assumption⟩
      · exact ⟨.inr rfl, by assumption⟩
      · cases hc
    obtain ⟨r1, _⟩ := results_ok (P := P) B1.tyk g ha hfin.2
    simp only [resV, V.den] at r1
    rcases hfin.1 with rfl | rfl
    · exact ⟨rfl, _, r1, rfl, g.bel⟩
    · exact ⟨rfl, _, r1, rfl, g.bel⟩) m _ _ _ _ (ht b)
  have := ok E w _ (h0_gd E w) (enter_wf hw hl) (q3 cd hcd) rfl (fun _ h => h) (fun _ => True) (fun _ _ _ => trivial) fun _ _ _ => trivial
  rw [enter_act E hl] at this
  exact this
end
end Go.Proofs.Rn
