/- The law ClusterNobody, run; no conditions. -/
import Derived.Test.YtjdebeibhnjbgaaGreatBCna
import Derived.Test.YtjdebeibhnjbgaaGreatBc
import Derived.Test.YtjdebeibhnjbgaaGreatBCnr
namespace Go.Proofs.YtjdebeibhnjbgaaGreat
open Go Go.RowKit Go.Proofs.Own Go.Proofs.Rn

def hkL (f : FuncId) (al : List V) (h : Hp) : Option (V × Hp) := match Nat.beq f 5 with
  | true => match al with
    | [] => some (.b true, h)
    | _ => none
  | false => hkF f al h
theorem env_okL (w0 : World) (Q : Exit → Act → World → Prop) (hQ : PanOk Q) : Env Tryz.prog tyT.get fnT.get hkL w0 Q where
  tyk := (env_okF w0 Q hQ).tyk
  pe := (env_okF w0 Q hQ).pe
  mix := (env_okF w0 Q hQ).mix
  pan := hQ
  fnk := (env_okF w0 Q hQ).fnk
  hok := by
    intro f al h r h' hh E w g hw
    unfold hkL at hh
    split at hh
    · rename_i e
      obtain rfl := Nat.eq_of_beq_eq_true e
      split at hh
      · cases hh
        refine ⟨(lives_run w).mono ?_, _, Tryz.func5, by kernel_rfl, by kernel_rfl⟩
        rintro e w' ⟨rfl, hb⟩
        exact ⟨E, by simp only [V.den], ⟨g.step (Kept.of_below hb (S := fun _ => False) fun k h1 h2 => by omega), Ext.refl _ _ _, Nat.le_refl _, Nat.le_refl _, rfl, fun _ _ => SameE.refl _ _ _⟩, by simp only [V.wf]⟩
      · cases hh
    · exact (env_okF w0 Q hQ).hok f al h r h' hh E w g hw
noncomputable def lawC : Code := match fi3.fn.body with
  | some c => c
  | none => .skip
noncomputable def x0 (r : CAct) (t : Int) : CfO := some (.code lawC, ⟨argsT [.g (actC r), .i .i64 t] 0 .e, fi3.fn.ntmps, fi3.pls⟩, h0, [])
noncomputable def x1 (r : CAct) (t : Int) : CfO := cont Tryz.prog tyT.get fnT.get hkL 51 (x0 r t)
noncomputable def x2 (r : CAct) (t : Int) : CfO := cont Tryz.prog tyT.get fnT.get hkL 26 (putB false (x1 r t))
noncomputable def x3 (r : CAct) (t : Int) : CfO := cont Tryz.prog tyT.get fnT.get hkL 4 (putB true (x2 r t))
noncomputable def x4 (r : CAct) (t : Int) : CfO := cont Tryz.prog tyT.get fnT.get hkL 11 (putB true (x3 r t))
noncomputable def rn (x : CfO) : Bool := runO Tryz.prog tyT.get fnT.get hkL (isTrue1 tyT.get fi3.fn) 40000 x
theorem k1 (r : CAct) (t : Int) : isCmp Tryz.prog tyT.get (x1 r t) = true := by kernel_rfl
theorem k2 (r : CAct) (t : Int) : isCmp Tryz.prog tyT.get (x2 r t) = true := by kernel_rfl
theorem k3 (r : CAct) (t : Int) : isCmp Tryz.prog tyT.get (x3 r t) = true := by kernel_rfl
theorem k4 (r : CAct) (t : Int) : isCmp Tryz.prog tyT.get (x4 r t) = true := by kernel_rfl
theorem m1 (r : CAct) (t : Int) : rn (putB true (x1 r t)) = true := by kernel_rfl
theorem m2 (r : CAct) (t : Int) : rn (putB false (x2 r t)) = true := by kernel_rfl
theorem m3 (r : CAct) (t : Int) : rn (putB false (x3 r t)) = true := by kernel_rfl
theorem m4 (r : CAct) (t : Int) : rn (putB false (x4 r t)) = true := by kernel_rfl
set_option maxRecDepth 1000000 in
theorem m5 (r : CAct) (t : Int) : rn (putB true (x4 r t)) = true := by kernel_rfl
theorem cnobody_any (r : CAct) (t : Int) (w : World) : Calls Tryz.prog 3 #[.agg (actV r).toArray, .int .i64 t] w fun e w' => e = .returned (.bool true) ∧ Below w.heap.size w w' := by
  have hwf : V.wfL 0 0 [.g (actC r), .i .i64 t] := by simp only [actC, V.wfL, V.wf, and_self]
  have key := law_asks (P := Tryz.prog) (tt := tyT.get) (ft := fnT.get) (hk := hkL) (f := 3) (i := fi3) (cd := lawC) (al := [.g (actC r), .i .i64 t]) w (env_okL w) (by kernel_rfl) (by kernel_rfl) (of_decide_eq_true (by kernel_rfl)) hwf (fun Q B hQ => by
    show OkO Tryz.prog w Q (x0 r t)
    have fin : ∀ x, rn x = true → OkO Tryz.prog w Q x := fun x hx => run_okO B hQ hx
    have s4 : OkO Tryz.prog w Q (x4 r t) := cmp_ok B (k4 r t) fun b => by
      cases b
      · exact fin _ (m4 r t)
      · exact fin _ (m5 r t)
    have s3 : OkO Tryz.prog w Q (x3 r t) := cmp_ok B (k3 r t) fun b => by
      cases b
      · exact fin _ (m3 r t)
      · exact cont_ok B 11 s4
    have s2 : OkO Tryz.prog w Q (x2 r t) := cmp_ok B (k2 r t) fun b => by
      cases b
      · exact fin _ (m2 r t)
      · exact cont_ok B 4 s3
    have s1 : OkO Tryz.prog w Q (x1 r t) := cmp_ok B (k1 r t) fun b => by
      cases b
      · exact cont_ok B 26 s2
      · exact fin _ (m1 r t)
    exact cont_ok B 51 s1) E0
  have e : (V.denL E0 [.g (actC r), .i .i64 t]).toArray = #[.agg (actV r).toArray, .int .i64 t] := by simp only [actC, actV, V.denL, V.den]
  rw [e] at key
  exact key
#print axioms cnobody_any
end Go.Proofs.YtjdebeibhnjbgaaGreat
