/- THE STATEMENT PartyApart: a clone heard what the party did and is apart; a party that is nil or that no call made hears nothing. For every input; no conditions. -/
import Derived.Test.YtcccgcemgikkfaaApart
import Derived.Test.YtcccgcemgikkfaaPlaysHolds
import Derived.Lib.SmallJoins
namespace Go.Proofs.Ytcccgcemgikkfaa
open Go.ChangeShapes Go.WideShapes Go.ChangeAt Go.RowKit Go.Deep Go.Proofs.Own Go.Joins

theorem open_agg9 {H : Type} {enc : TypeId × Value → H} {P : Program} {w : World} {base : Nat} {spare : Nat → Bool} {held : Bool} {r : Reach} {b0 : Nat} {t : TypeId} {f0 f1 f2 f3 f4 f5 f6 f7 f8 : Field} {v : Value} {d : DataW H} {p : List MemPlace} (hs : P.underlying t = some (.struct #[f0, f1, f2, f3, f4, f5, f6, f7, f8])) (hone : oneCellFields P #[f0, f1, f2, f3, f4, f5, f6, f7, f8] = true) (hC : P.cellsOf t = 9)
    (hv : Value.okWide P w r b0 t v) (h : DataW.Trod enc P w base spare held t v d p) :
    ∃ (v0 v1 v2 v3 v4 v5 v6 v7 v8 : Value) (y0 y1 y2 y3 y4 y5 y6 y7 y8 : DataW H × List MemPlace) (n : Nat), v = .agg #[v0, v1, v2, v3, v4, v5, v6, v7, v8] ∧
      DataW.trod enc P w base spare held n f0.type [v0] = some y0 ∧ DataW.trod enc P w base spare held n f1.type [v1] = some y1 ∧ DataW.trod enc P w base spare held n f2.type [v2] = some y2 ∧ DataW.trod enc P w base spare held n f3.type [v3] = some y3 ∧ DataW.trod enc P w base spare held n f4.type [v4] = some y4 ∧ DataW.trod enc P w base spare held n f5.type [v5] = some y5 ∧ DataW.trod enc P w base spare held n f6.type [v6] = some y6 ∧ DataW.trod enc P w base spare held n f7.type [v7] = some y7 ∧ DataW.trod enc P w base spare held n f8.type [v8] = some y8 := by
  obtain ⟨cs, rfl, hsz⟩ := okWide_struct hs hv
  obtain ⟨l⟩ := cs
  match l, hsz.trans hC with
  | [c0, c1, c2, c3, c4, c5, c6, c7, c8], _ =>
    obtain ⟨fuel, hf⟩ := h
    obtain ⟨xs, n, _, hx, _, hlen, hg⟩ := DataW.trod_struct hs hf
    obtain ⟨o0, k0⟩ := hone_of hone 0 f0 rfl
    obtain ⟨o1, k1⟩ := hone_of hone 1 f1 rfl
    obtain ⟨o2, k2⟩ := hone_of hone 2 f2 rfl
    obtain ⟨o3, k3⟩ := hone_of hone 3 f3 rfl
    obtain ⟨o4, k4⟩ := hone_of hone 4 f4 rfl
    obtain ⟨o5, k5⟩ := hone_of hone 5 f5 rfl
    obtain ⟨o6, k6⟩ := hone_of hone 6 f6 rfl
    obtain ⟨o7, k7⟩ := hone_of hone 7 f7 rfl
    obtain ⟨o8, k8⟩ := hone_of hone 8 f8 rfl
    match xs, hlen with
    | [y0, y1, y2, y3, y4, y5, y6, y7, y8], _ =>
      exact ⟨c0, c1, c2, c3, c4, c5, c6, c7, c8, y0, y1, y2, y3, y4, y5, y6, y7, y8, n, rfl, by simpa [Value.cells, o0, k0] using hg 0 f0 rfl, by simpa [Value.cells, o1, k1] using hg 1 f1 rfl, by simpa [Value.cells, o2, k2] using hg 2 f2 rfl, by simpa [Value.cells, o3, k3] using hg 3 f3 rfl, by simpa [Value.cells, o4, k4] using hg 4 f4 rfl, by simpa [Value.cells, o5, k5] using hg 5 f5 rfl, by simpa [Value.cells, o6, k6] using hg 6 f6 rfl, by simpa [Value.cells, o7, k7] using hg 7 f7 rfl, by simpa [Value.cells, o8, k8] using hg 8 f8 rfl⟩


/-- An argument api.Notice, as the walk wants it. -/
theorem open_notice {H : Type} {enc : TypeId × Value → H} {W : World} {v : Value} {d : DataW H} {ps : List MemPlace} {base : Nat} (hv : Value.okWide Try.prog W .any base 31 v)
    (h : DataW.Trod enc Try.prog W 0 (fun _ => true) true 31 v d ps) : ∃ z0 z1 z2 z3 z4 z5 z6 z7 z8 : Int, v = .agg #[.int .u64 z0, .int .u64 z1, .int .i64 z2, .int .i64 z3, .int .i64 z4, .int .i64 z5, .int .i64 z6, .int .i64 z7, .int .i64 z8] ∧ (Lit.int .u64 z0).wf = true := by
  obtain ⟨v0, v1, v2, v3, v4, v5, v6, v7, v8, y0, y1, y2, y3, y4, y5, y6, y7, y8, n, rfl, h0, h1, h2, h3, h4, h5, h6, h7, h8⟩ := open_agg9 Try.underlying31 (by kernel_rfl) (by kernel_rfl) hv h
  obtain ⟨z0, e0, _, wf0⟩ := DataW.trod_int Try.underlying23 h0
  obtain rfl : v0 = .int .u64 z0 := by simpa using e0
  obtain ⟨z1, e1, _, wf1⟩ := DataW.trod_int Try.underlying23 h1
  obtain rfl : v1 = .int .u64 z1 := by simpa using e1
  obtain ⟨z2, e2, _, wf2⟩ := DataW.trod_int Try.underlying3 h2
  obtain rfl : v2 = .int .i64 z2 := by simpa using e2
  obtain ⟨z3, e3, _, wf3⟩ := DataW.trod_int Try.underlying3 h3
  obtain rfl : v3 = .int .i64 z3 := by simpa using e3
  obtain ⟨z4, e4, _, wf4⟩ := DataW.trod_int Try.underlying3 h4
  obtain rfl : v4 = .int .i64 z4 := by simpa using e4
  obtain ⟨z5, e5, _, wf5⟩ := DataW.trod_int Try.underlying3 h5
  obtain rfl : v5 = .int .i64 z5 := by simpa using e5
  obtain ⟨z6, e6, _, wf6⟩ := DataW.trod_int Try.underlying3 h6
  obtain rfl : v6 = .int .i64 z6 := by simpa using e6
  obtain ⟨z7, e7, _, wf7⟩ := DataW.trod_int Try.underlying2 h7
  obtain rfl : v7 = .int .i64 z7 := by simpa using e7
  obtain ⟨z8, e8, _, wf8⟩ := DataW.trod_int Try.underlying2 h8
  obtain rfl : v8 = .int .i64 z8 := by simpa using e8
  exact ⟨z0, z1, z2, z3, z4, z5, z6, z7, z8, rfl, wf0⟩

theorem apart_all (a : Option Addr) (n c : Nat) (g : Nat → Nat → Int) (y0 y1 y2 y3 y4 y5 y6 y7 y8 z0 z1 z2 z3 z4 z5 z6 z7 z8 : Int) (w : World) (hy : (Lit.int .u64 y0).wf = true) (hz : (Lit.int .u64 z0).wf = true) (hm : n ≤ maxLen) (hc : Notices w a n g) :
    Calls Try.prog 5 #[.slice a n c, .agg #[.int .u64 y0, .int .u64 y1, .int .i64 y2, .int .i64 y3, .int .i64 y4, .int .i64 y5, .int .i64 y6, .int .i64 y7, .int .i64 y8], .agg #[.int .u64 z0, .int .u64 z1, .int .i64 z2, .int .i64 z3, .int .i64 z4, .int .i64 z5, .int .i64 z6, .int .i64 z7, .int .i64 z8]] w fun e w' => e = .returned (.bool true) ∧ Below w.heap.size w w' := by
  by_cases hn : n ≤ 60
  · exact apart_walk a n c g y0 y1 y2 y3 y4 y5 y6 y7 y8 z0 z1 z2 z3 z4 z5 z6 z7 z8 w hy hz hn hc
  · exact apart_long a n c y0 y1 y2 y3 y4 y5 y6 y7 y8 z0 z1 z2 z3 z4 z5 z6 z7 z8 w (by omega) (by unfold maxLen at hm; omega)

set_option maxRecDepth 100000 in
theorem apart_lifted (os : Os) (started : os.Started) (H : Type) (enc : TypeId × Value → H) :
    ReturnsInHanded {} Try.checked os 5 .any (Rows.partyApartSpec.pre6 enc Try.prog Try.f5 Rows.partyApartRow.domain false) (Rows.partyApartSpec.post enc Try.prog Try.f5 false true false false) := by
  refine returnsInHanded_of_change (C := Try.checked) own started (by kernel_rfl) Try.func5
    (ChangeSpec.witness6 (enc := enc) (C := Try.checked) false ⟨#[], #[.slice none 0 0, .agg #[.int .u64 0, .int .u64 0, .int .i64 0, .int .i64 0, .int .i64 0, .int .i64 0, .int .i64 0, .int .i64 0, .int .i64 0], .agg #[.int .u64 0, .int .u64 0, .int .i64 0, .int .i64 0, .int .i64 0, .int .i64 0, .int .i64 0, .int .i64 0, .int .i64 0]], []⟩ 8 (by kernel_rfl) (by kernel_rfl) (by kernel_rfl) (by kernel_rfl)) ?_
  intro W base args ds gs before hval0 hW hcnd _
  have hval : ∀ (j : Nat) t v, Try.f5.params[j]? = some t → args[j]? = some v → Value.okWide Try.prog W .any base t v := hval0
  have hW' := hW
  obtain ⟨p, q, hA0, hV, _, hfz, hnd⟩ := hW
  have hA : DataW.TrodAll enc Try.prog W 0 (fun _ => true) true Try.f5.params.toList args.toList ds p := hA0
  rw [Try.params5] at hA hval
  obtain ⟨v0, v1, v2, d0, d1, d2, p0, p1, p2, rfl, rfl, rfl, h0, h1, h2⟩ := trodAll_three hA
  obtain ⟨a, n, c, g, rfl, hm, hN⟩ := open_notices (.inr ⟨base, hval 0 22 v0 rfl rfl⟩) h0
  obtain ⟨y0, y1, y2, y3, y4, y5, y6, y7, y8, rfl, wy⟩ := open_notice (hval 1 31 v1 rfl rfl) h1
  obtain ⟨z0, z1, z2, z3, z4, z5, z6, z7, z8, rfl, wz⟩ := open_notice (hval 2 31 v2 rfl rfl) h2
  refine (apart_all a n c g y0 y1 y2 y3 y4 y5 y6 y7 y8 z0 z1 z2 z3 z4 z5 z6 z7 z8 W wy wz hm hN).mono fun e W' ⟨he, hb⟩ => ?_
  exact ⟨_, he, law_post laid (by kernel_rfl) ⟨4, rfl, Try.underlying4⟩ rfl (fun ds hds => by
    match ds, hds with
    | [x, y, z], _ => rfl) hW' hb⟩

theorem apart_holds : Rows.PartyApartSaid :=
  OpenClaim.holds_of_wide 5 Try.f5 rfl rfl rfl rfl rfl rfl rfl ⟨rfl, rfl, rfl, rfl, rfl⟩ rfl rfl rfl rfl rfl (by kernel_rfl) Try.func5 (by kernel_rfl)
    (of_decide_eq_true (by kernel_rfl)) (by unfold Func.isWrapper; first | (rw [if_pos (by decide +kernel)]; kernel_rfl) | (rw [if_neg (by decide +kernel)]; exact ⟨rfl, rfl⟩))
    (fun os started H enc _ => apart_lifted os started H enc)
#print axioms apart_holds
end Go.Proofs.Ytcccgcemgikkfaa
