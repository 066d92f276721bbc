/- A runner: a run with answers that are not told, stage by stage; over any program; no conditions. -/
import Derived.Test.YtcdlhokeednjfaaGreatZs
namespace Go.Proofs.Rn
open Go Go.RowKit Go.Proofs.Own

abbrev CfO := Option (Cf × Ac × Hp × List KF)
section
variable (P : Program) (tt : TypeId → Option TJ) (ft : FuncId → Option FI) (hk : FuncId → List V → Hp → Option (V × Hp))
def cont (n : Nat) : CfO → CfO
  | some (c, a, h, k) => runTo P tt ft hk n c a h k
  | none => none
def isCmp : CfO → Bool
  | some (.ops l (o :: _), a, h, _) => match wantV l a o, hiB o.op, evQ P tt h.get h.get a.ev o.op with
    | some true, true, some (.b _) => true
    | _, _, _ => false
  | _ => false
def putB (b : Bool) : CfO → CfO
  | some (.ops l (o :: r), a, h, k) => some (.ops l r, a.put o.dst (.b b), h, k)
  | _ => none
def callI : CfO → Option (FuncId × List V)
  | some (.ops l (o :: _), a, _, _) => match wantV l a o with
    | some true => callV a o.op
    | _ => none
  | _ => none
def runO (ck : Ex → Ac → Hp → Bool) (n : Nat) : CfO → Bool
  | some (c, a, h, k) => run P tt ft hk ck n c a h k
  | none => false
end
section
variable {P : Program} {tt : TypeId → Option TJ} {ft : FuncId → Option FI} {hk : FuncId → List V → Hp → Option (V × Hp)} {w0 : World} {Q : Exit → Act → World → Prop} {x : CfO}
variable (P w0 Q) in
def OkO : CfO → Prop
  | some (c, a, h, k) => Ok P w0 Q c a h k
  | none => False
theorem cont_ok (B : Env P tt ft hk w0 Q) (n : Nat) (hx : OkO P w0 Q (cont P tt ft hk n x)) : OkO P w0 Q x := by
  cases x with
  | none => exact hx
  | some x =>
    obtain ⟨c, a, h, k⟩ := x
    simp only [cont] at hx
    cases hr : runTo P tt ft hk n c a h k with
    | none => rw [hr] at hx; exact hx.elim
    | some y =>
      obtain ⟨c', a', h', k'⟩ := y
      rw [hr] at hx
      exact runTo_ok B hr hx
theorem cmp_ok (B : Env P tt ft hk w0 Q) (hc : isCmp P tt x = true) (hx : ∀ b, OkO P w0 Q (putB b x)) : OkO P w0 Q x := by
  unfold isCmp at hc
  split at hc
  · rename_i l o r a h k
    split at hc
    · rename_i b hw hb hq
      have hs : stp P tt ft hk (.ops l (o :: r)) a h k = .go (.ops l r) (a.put o.dst (.b b)) h k := by
        have : op1 P tt hk a h o.op = .val (.b b) h := by
          unfold op1
          rw [hb, hq]
        simp only [stp, hw, this]
      exact stp_ok B hs (hx b)
    · cases hc
  · cases hc
theorem call_okB (B : Env P tt ft hk w0 Q) {f : FuncId} {al : List V} (hc : callI x = some (f, al)) {fn : Func} (hf : P.funcs[f]? = some fn) (hb : fn.body.isSome = true) (hn : (fn.name == "runtime.NumGoroutine") = false)
    (hcall : ∀ E h w, Gd E w0 h w → Calls P f (V.denL E al).toArray w fun e w' => ∃ b, e = .returned (.bool b) ∧ Stp w0 E h E h w') (hx : ∀ b, OkO P w0 Q (putB b x)) : OkO P w0 Q x := by
  unfold callI at hc
  split at hc
  · rename_i l o r a h k
    split at hc
    · rename_i hw
      exact stop_ok (c := .ops l (o :: r)) (a := a) (h := h) (k := k) (n := 0) (t := ⟨l, o, r, a, h, k, f, al⟩) B (by simp only [runTo, atCall, hw, hc]) hf hb hn (fun E w g => hcall E h w g) fun b => hx b
    · cases hc
  · cases hc
theorem run_okO (B : Env P tt ft hk w0 Q) {ck : Ex → Ac → Hp → Bool} {n : Nat} (hQ : ∀ e a h, ck e a h = true → ∀ E w, Gd E w0 h w → a.Wf h → Q e.out (a.act E) w) (hr : runO P tt ft hk ck n x = true) : OkO P w0 Q x := by
  unfold runO at hr
  split at hr
  · exact run_ok B hQ n _ _ _ _ hr
  · cases hr
/-- A law that asks. -/
theorem law_asks {f : FuncId} {i : FI} {cd : Code} {al : List V} (w : World) (B : ∀ Q, PanOk Q → Env P tt ft hk w Q) (hi : ft f = some i) (hcd : i.fn.body = some cd) (hl : al.length ≤ i.fn.ntmps) (hw : V.wfL 0 0 al)
    (hok : ∀ Q, Env P tt ft hk w Q → (∀ e a h, isTrue1 tt i.fn e a h = true → ∀ E w', Gd E w h w' → a.Wf h → Q e.out (a.act E) w') → OkO P w Q (some (.code cd, ⟨argsT al 0 .e, i.fn.ntmps, i.pls⟩, h0, []))) (E : En) :
    Calls P f (V.denL E al).toArray w fun e w' => e = .returned (.bool true) ∧ Below w.heap.size w w' := by
  let R : Ending → World → Prop := fun e w' => e = .returned (.bool true) ∧ Below w.heap.size w w'
  have B1 := B (bodyPost P i.fn R) fun c a t w h => h
  obtain ⟨q1, _, q3⟩ := B1.fnk f i hi
  refine calls_of_wp q1 hcd ?_
  have ok := hok (bodyPost P i.fn R) B1 (fun e a h hc E w' g ha => by
    have hfin : (e = .ret ∨ e = .n) ∧ resL tt a h i.fn.results.toList = some [.b true] := by
      unfold isTrue1 at hc
      split at hc
      · exact ⟨.inl rfl, by assumption⟩
      · exact ⟨.inr rfl, by assumption⟩
      · cases hc
    obtain ⟨r1, _⟩ := results_ok (P := P) B1.tyk g ha hfin.2
    simp only [resV, V.den] at r1
    rcases hfin.1 with rfl | rfl
    · exact ⟨rfl, _, r1, rfl, g.bel⟩
    · exact ⟨rfl, _, r1, rfl, g.bel⟩)
  have := ok E w _ (h0_gd E w) (enter_wf hw hl) (q3 cd hcd) rfl (fun _ h => h) (fun _ => True) (fun _ _ _ => trivial) fun _ _ _ => trivial
  rw [enter_act E hl] at this
  exact this
end
end Go.Proofs.Rn
