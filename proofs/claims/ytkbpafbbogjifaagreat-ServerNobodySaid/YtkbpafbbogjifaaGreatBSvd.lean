/- The law ServerNobody, run; no conditions. -/
import Derived.Test.YtkbpafbbogjifaaGreatBSvb
import Derived.Test.YtkbpafbbogjifaaGreatBc
import Derived.Test.YtkbpafbbogjifaaGreatBSvr
namespace Go.Proofs.YtkbpafbbogjifaaGreat
open Go Go.RowKit Go.Proofs.Own Go.Proofs.Rn

def hkL (f : FuncId) (al : List V) (h : Hp) : Option (V × Hp) := match Nat.beq f 5 with
  | true => match al with
    | [] => some (.b true, h)
    | _ => none
  | false => hkF f al h
theorem below_stp {w0 w w' : World} {E : En} {h : Hp} (g : Gd E w0 h w) (hb : Below w.heap.size w w') : Stp w0 E h E h w' :=
  ⟨g.step (Kept.of_below hb (S := fun _ => False) fun k h1 h2 => by omega), Ext.refl _ _ _, Nat.le_refl _, Nat.le_refl _, rfl, fun _ _ => SameE.refl _ _ _⟩
theorem env_okL (w0 : World) (Q : Exit → Act → World → Prop) (hQ : PanOk Q) : Env Tryz.prog tyT.get fnT.get hkL w0 Q where
  tyk := (env_okF w0 Q hQ).tyk
  pe := (env_okF w0 Q hQ).pe
  mix := (env_okF w0 Q hQ).mix
  pan := hQ
  fnk := (env_okF w0 Q hQ).fnk
  hok := by
    intro f al h r h' hh E w g hw
    unfold hkL at hh
    split at hh
    · rename_i e
      obtain rfl := Nat.eq_of_beq_eq_true e
      split at hh
      · cases hh
        refine ⟨(lives_run w).mono ?_, _, Tryz.func5, by kernel_rfl, by kernel_rfl⟩
        rintro e w' ⟨rfl, hb⟩
        exact ⟨E, by simp only [V.den], below_stp g hb, by simp only [V.wf]⟩
      · cases hh
    · exact (env_okF w0 Q hQ).hok f al h r h' hh E w g hw
noncomputable def lawC : Code := match fi3.fn.body with
  | some c => c
  | none => .skip
noncomputable def x0 (r : ROp) : CfO := some (.code lawC, ⟨argsT [.g (ropC r)] 0 .e, fi3.fn.ntmps, fi3.pls⟩, h0, [])
noncomputable def x1 (r : ROp) : CfO := cont Tryz.prog tyT.get fnT.get hkL 51 (x0 r)
noncomputable def x2 (r : ROp) : CfO := cont Tryz.prog tyT.get fnT.get hkL 4 (putB false (x1 r))
noncomputable def x3 (r : ROp) : CfO := cont Tryz.prog tyT.get fnT.get hkL 5 (putB false (x2 r))
noncomputable def x4 (r : ROp) : CfO := cont Tryz.prog tyT.get fnT.get hkL 4 (putB false (x3 r))
noncomputable def rn (x : CfO) : Bool := runO Tryz.prog tyT.get fnT.get hkL (isTrue1 tyT.get fi3.fn) 200000 x
def msC (r : ROp) : List V := [.i .i64 r.mq, .i .i64 r.mf, .i .i64 r.mt, .i .u64 r.tm, .i .u64 r.ix, .i .u64 r.lt, .i .u64 r.cm, .i .u64 r.rd, .b r.ok, .b r.fo, .o (.slice r.eva r.evn r.evc), .i .u64 r.si, .i .u64 r.st, .o (.slice r.mva r.mvn r.mvc), .o (.slice r.sva r.svn r.svc)]
theorem k1 (r : ROp) : isCmp Tryz.prog tyT.get (x1 r) = true := by kernel_rfl
theorem k2 (r : ROp) : isCmp Tryz.prog tyT.get (x2 r) = true := by kernel_rfl
theorem k3 (r : ROp) : isCmp Tryz.prog tyT.get (x3 r) = true := by kernel_rfl
theorem k4 (r : ROp) : callI (x4 r) = some (20, [.g (msC r)]) := by kernel_rfl
theorem m1 (r : ROp) : rn (putB true (x1 r)) = true := by kernel_rfl
theorem m2 (r : ROp) : rn (putB true (x2 r)) = true := by kernel_rfl
theorem m3 (r : ROp) : rn (putB true (x3 r)) = true := by kernel_rfl
theorem m4 (r : ROp) : rn (putB false (x4 r)) = true := by kernel_rfl
set_option maxRecDepth 1000000 in
theorem m5 (r : ROp) : rn (putB true (x4 r)) = true := by kernel_rfl
theorem svnobody_any (r : ROp) (w : World) (hO : ROk w r) : Calls Tryz.prog 3 #[.agg (ropV r).toArray] w fun e w' => e = .returned (.bool true) ∧ Below w.heap.size w w' := by
  have hwf : V.wfL 0 0 [.g (ropC r)] := by simp only [ropC, V.wfL, V.wf, and_self]
  have key := law_asks (P := Tryz.prog) (tt := tyT.get) (ft := fnT.get) (hk := hkL) (f := 3) (i := fi3) (cd := lawC) (al := [.g (ropC r)]) w (env_okL w) (by kernel_rfl) (by kernel_rfl) (of_decide_eq_true (by kernel_rfl)) hwf (fun Q B hQ => by
    show OkO Tryz.prog w Q (x0 r)
    have fin : ∀ x, rn x = true → OkO Tryz.prog w Q x := fun x hx => run_okO B hQ hx
    have hcall : ∀ E h w', Gd E w h w' → Calls Tryz.prog 20 (V.denL E [.g (msC r)]).toArray w' fun e w2 => ∃ b, e = .returned (.bool b) ∧ Stp w E h E h w2 := fun E h w' g => by
      have := ml_any r w' (hO.below (Nat.le_refl _) g.bel g.bel.size)
      simp only [msC, V.denL, V.den]
      refine this.mono ?_
      rintro e w2 ⟨b, rfl, hb⟩
      exact ⟨b, rfl, below_stp g hb⟩
    have s4 : OkO Tryz.prog w Q (x4 r) := call_okB B (k4 r) Tryz.func20 (by kernel_rfl) (by kernel_rfl) hcall fun b => by
      cases b
      · exact fin _ (m4 r)
      · exact fin _ (m5 r)
    have s3 : OkO Tryz.prog w Q (x3 r) := cmp_ok B (k3 r) fun b => by
      cases b
      · exact cont_ok B 4 s4
      · exact fin _ (m3 r)
    have s2 : OkO Tryz.prog w Q (x2 r) := cmp_ok B (k2 r) fun b => by
      cases b
      · exact cont_ok B 5 s3
      · exact fin _ (m2 r)
    have s1 : OkO Tryz.prog w Q (x1 r) := cmp_ok B (k1 r) fun b => by
      cases b
      · exact cont_ok B 4 s2
      · exact fin _ (m1 r)
    exact cont_ok B 51 s1) E0
  have e : (V.denL E0 [.g (ropC r)]).toArray = #[.agg (ropV r).toArray] := by simp only [ropC, ropV, V.denL, V.den]
  rw [e] at key
  exact key
#print axioms svnobody_any
end Go.Proofs.YtkbpafbbogjifaaGreat
