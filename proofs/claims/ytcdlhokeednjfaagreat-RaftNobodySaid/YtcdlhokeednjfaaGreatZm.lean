/- A runner: a run of the machine is a run of the model; over any program; no conditions. -/
import Derived.Test.YtcdlhokeednjfaaGreatZl
namespace Go.Proofs.Rn
open Go Go.RowKit Go.Proofs.Own

def resS (tm : Array Value) : ResultVar → Sem Value
  | .tmp t => pure (tm.getD t undef)
  | .cell a t => do loadVar t (← asAddr (tm.getD a undef))
theorem results_eq (fn : Func) (tm : Array Value) : results fn tm = (do let vs ← fn.results.mapM (resS tm); pure (if h : vs.size = 1 then vs[0] else .tuple vs)) := by
  unfold results
  congr 2
section
variable {P : Program} {ops : Array Oper} {Q : Exit → Act → World → Prop} {S : World → Prop} {M : List Nat} {J : Nat}
theorem anyS_mono {S' : World → Prop} (h : ∀ w, S' w → S w) : ∀ f listed a w, Own.wpAnyS P ops Q S' J f listed a w → Own.wpAnyS P ops Q S J f listed a w
  | 0, _, _, _, k => k
  | f + 1, _, _, _, k => ⟨k.1, fun i hi => wpOp_mono (fun a' w' h' => ⟨fun hj => h _ (h'.1 hj), anyS_mono h f _ a' w' h'.2⟩) (k.2 i hi)⟩
/-- The standing fact is changed for a stronger one. -/
theorem stage_switch {f : Nat} {listed : Array Bool} {a : Act} {w : World} {S : World → Prop} (S' : World → Prop) (h : ∀ w, S' w → S w) (k : Own.Rest P ops M J S' Q f listed a w) : Own.Rest P ops M J S Q f listed a w :=
  ⟨fun hc => anyS_mono h _ _ _ _ (k.out hc)⟩
end
section
variable {P : Program} {tt : TypeId → Option TJ} {ft : FuncId → Option FI} {hk : FuncId → List V → Hp → Option (V × Hp)} {w0 w : World} {Q : Exit → Act → World → Prop} {E E' : En} {a a' : Ac} {h h' : Hp} {k k' : List KF} {c c' : Cf}
theorem argsT_get : ∀ (l : List V) (i : Nat) (t : Tr V) (j : Nat), (argsT l i t).get j = if i ≤ j ∧ j < i + l.length then l[j - i]? else t.get j
  | [], i, t, j => by rw [argsT, if_neg (by simp)]
  | x :: l, i, t, j => by
    rw [argsT, argsT_get l (i + 1) _ j]
    simp only [List.length_cons]
    by_cases q : j = i
    · subst q
      rw [if_neg (by omega), if_pos (by omega), Tr.get_put, Nat.sub_self]
      rfl
    · rw [Tr.get_put_ne _ _ q]
      by_cases q2 : i + 1 ≤ j ∧ j < i + 1 + l.length
      · rw [if_pos q2, if_pos (by omega), show j - i = (j - (i + 1)) + 1 by omega]
        rfl
      · rw [if_neg q2, if_neg (by omega)]
theorem enter_wf {as : List V} {n : Nat} {pls : List (Nat × Pl)} (hw : V.wfL h.n h.zn as) (hl : as.length ≤ n) : (⟨argsT as 0 .e, n, pls⟩ : Ac).Wf h := fun i v hv => by
  simp only [argsT_get, Nat.zero_le, true_and, Nat.zero_add, Nat.sub_zero, Tr.get_e] at hv
  split at hv
  · exact ⟨by simp only; omega, wfL_iff.1 hw v (List.mem_of_getElem? hv)⟩
  · cases hv
theorem enter_act (E : En) {as : List V} {n : Nat} {pls : List (Nat × Pl)} (hl : as.length ≤ n) : (⟨argsT as 0 .e, n, pls⟩ : Ac).act E = { tmps := (V.denL E as).toArray ++ Array.replicate (n - (V.denL E as).toArray.size) undef, defers := [] } := by
  have hs : (V.denL E as).toArray.size = as.length := by rw [List.size_toArray, denL_len]
  rw [hs]
  unfold Ac.act
  congr 1
  apply Array.ext_getElem?
  intro i
  rw [List.getElem?_toArray, List.getElem?_map, Array.getElem?_append, hs, List.getElem?_toArray, denL_get, Array.getElem?_replicate]
  simp only [argsT_get, Nat.zero_le, true_and, Nat.zero_add, Nat.sub_zero, Tr.get_e]
  by_cases h1 : i < as.length
  · rw [List.getElem?_range (by omega), if_pos h1]
    simp only [Option.map_some, h1, if_true, List.getElem?_eq_getElem h1, den0]
  · rw [if_neg h1]
    by_cases h2 : i < n
    · rw [List.getElem?_range h2, if_pos (by omega)]
      simp only [Option.map_some, h1, if_false, den0]
    · rw [List.getElem?_eq_none (by simpa using h2), if_neg (by omega)]
      rfl
theorem res1_ok (hT : TTok P tt) (g : Gd E w0 h w) (ha : a.Wf h) {x : ResultVar} {v : V} (hx : res1 tt a h x = some v) : (resS (a.act E).tmps x).run P w = .ok (v.den E) w ∧ v.wf h.n h.zn := by
  cases x with
  | tmp t =>
    cases hx
    exact ⟨by
      simp only [resS, Sem.run_pure]
      rw [show (a.act E).tmps.getD t undef = (a.act E).eval (.tmp t) from rfl, act_eval ha], ev_wf ha _⟩
  | cell c t =>
    simp only [res1] at hx
    split at hx
    · rename_i b o e
      split at hx
      · rename_i i cs u hi hb
        have he := g.ent hb
        refine ⟨?_, loadV_wf hx (g.wf.wf hb)⟩
        simp only [resS]
        rw [show (a.act E).tmps.getD c undef = (a.act E).eval (.tmp c) from rfl, act_eval ha, e]
        simp only [V.den, asAddr, Sem.run_bind, Sem.run_pure, Result.andThen_ok]
        exact load_ok (hT _ _ hi) (fun j v _ hv => by
          rw [denL_get] at hv
          cases hc : cs[j]? with
          | none => rw [hc] at hv; cases hv
          | some a => rw [hc] at hv; cases hv; exact (he.2.2.1 j a hc).1) hx
      · cases hx
    · cases hx
theorem resL_ok (hT : TTok P tt) (g : Gd E w0 h w) (ha : a.Wf h) : ∀ {l : List ResultVar} {r : List V}, resL tt a h l = some r → (l.mapM (resS (a.act E).tmps)).run P w = .ok (V.denL E r) w ∧ V.wfL h.n h.zn r
  | [], r, h => by cases h; exact ⟨by simp [V.denL], trivial⟩
  | x :: l, r, hx => by
    rw [resL] at hx
    split at hx
    · rename_i v q hv hq
      cases hx
      obtain ⟨h1, w1⟩ := res1_ok hT g ha hv
      obtain ⟨h2, w2⟩ := resL_ok hT g ha hq
      refine ⟨?_, by simp only [V.wfL]; exact ⟨w1, w2⟩⟩
      rw [List.mapM_cons, Sem.run_bind, h1, Result.andThen_ok, Sem.run_bind, h2, Result.andThen_ok]
      simp only [Sem.run_pure, V.denL]
    · cases hx
theorem results_ok (hT : TTok P tt) (g : Gd E w0 h w) (ha : a.Wf h) {fn : Func} {r : List V} (hx : resL tt a h fn.results.toList = some r) : (results fn (a.act E).tmps).run P w = .ok ((resV r).den E) w ∧ (resV r).wf h.n h.zn := by
  obtain ⟨h1, w1⟩ := resL_ok hT g ha hx
  refine ⟨?_, ?_⟩
  · rw [results_eq, Sem.run_bind]
    have h2 : (fn.results.mapM (resS (a.act E).tmps)).run P w = .ok (V.denL E r).toArray w := by
      rw [Array.mapM_eq_mapM_toList, Sem.run_map, h1]; rfl
    rw [h2, Result.andThen_ok, Sem.run_pure]
    congr 1
    match r with
    | [] => simp [V.denL, resV, V.den]
    | [x] => simp [V.denL, resV]
    | x :: y :: l => simp [V.denL, resV, V.den]
  · match r, w1 with
    | [], _ => simp only [resV, V.wf, V.wfL]
    | [x], w1 => simp only [V.wfL] at w1; exact w1.1
    | x :: y :: l, w1 => simp only [resV, V.wf]; exact w1
theorem wpList_on {l : List Oper} {o : Oper} {rs : List Oper} {Q' : Exit → Act → World → Prop} {b : Act} (hw : Region.wanted o (yielded l.toArray b.tmps) = true) (hh : o.wp P b w (wpList P l.toArray Q' rs) Q') : wpList P l.toArray Q' (o :: rs) b w := by
  unfold wpList
  rw [if_pos hw]
  exact .inl hh
theorem wpList_off {l : List Oper} {o : Oper} {rs : List Oper} {Q' : Exit → Act → World → Prop} {b : Act} (hw : Region.wanted o (yielded l.toArray b.tmps) = false) (hh : wpList P l.toArray Q' rs (b.put o.dst undef) w) : wpList P l.toArray Q' (o :: rs) b w := by
  unfold wpList
  rw [if_neg (by rw [hw]; decide)]
  exact hh
theorem touch_ok {op : Op} {b : Nat × Nat × Nat} (ht : touch tt a op = some b) : opK tt a.ev (fun i j => i = b.1 ∧ b.2.1 ≤ j ∧ j < b.2.2) op := by
  cases op with
  | load t x =>
    simp only [touch] at ht
    split at ht
    · rename_i b' o i e hi
      cases ht
      intro b2 o2 i2 e2 hi2 j hj
      rw [e] at e2
      cases e2
      rw [hi] at hi2
      cases hi2
      refine ⟨rfl, ?_, ?_⟩
      · rcases hj with rfl | hj
        · exact Nat.le_refl _
        · exact hj.1
      · simp only
        have : i.n ≤ oneN i.n ∧ 0 < oneN i.n := by
          cases i.n with
          | zero => exact ⟨Nat.zero_le _, Nat.one_pos⟩
          | succ n => exact ⟨Nat.le_refl _, Nat.succ_pos _⟩
        rcases hj with rfl | hj <;> omega
    · cases ht
  | convert t u x =>
    simp only [touch] at ht
    split at ht
    · rename_i b' o es n c e
      cases ht
      intro b2 o2 es2 n2 c2 e2 j h1 h2
      rw [e] at e2
      cases e2
      exact ⟨rfl, h1, h2⟩
    · cases ht
  | _ => trivial
/-- The heads of a stage. -/
theorem heads_ok (B : Env P tt ft hk w0 Q) (g : Gd E w0 h w) {l : List Oper} {L : Act → Prop} : ∀ {js : List Nat} {a : Ac} {z : List (Nat × Nat × Nat)} {a' : Ac} {z' : List (Nat × Nat × Nat)}, heads P tt l h js a z = some (a', z') → a.Wf h → (∀ i ∈ z, i.1 < h.n) →
    a'.Wf h ∧ (∀ i ∈ z, i ∈ z') ∧ (∀ i ∈ z', i.1 < h.n) ∧ a'.pls = a.pls ∧ ∀ {S : World → Prop}, (∀ v, S v → Hold E w0 h z' v) → L (a'.act E) → wpHeads P l.toArray S L (js.flatMap fun i => (l.drop i).take 1) (a.act E)
  | [], a, z, a', z', hh, ha, hz => by
    cases hh
    exact ⟨ha, fun _ h => h, hz, rfl, fun _ hL => heads_nil hL⟩
  | j :: js, a, z, a', z', hh, ha, hz => by
    rw [heads] at hh
    split at hh
    · cases hh
    · rename_i o ho
      have tk : ((j :: js).flatMap fun i => (l.drop i).take 1) = o :: (js.flatMap fun i => (l.drop i).take 1) := by
        rw [lget_eq] at ho
        obtain ⟨hl, he⟩ := List.getElem?_eq_some_iff.1 ho
        rw [List.flatMap_cons, List.drop_eq_getElem_cons hl, he]
        rfl
      rw [tk]
      have pls_put : ∀ (a : Ac) d v, (a.put d v).pls = a.pls := fun a d v => by
        unfold Ac.put
        cases d with
        | none => rfl
        | some k => simp only; split <;> rfl
      split at hh
      · cases hh
      · rename_i hw
        obtain ⟨q1, q2, q3, q4, q5⟩ := heads_ok B g (L := L) hh (put_wf ha (by simp only [V.wf]) o.dst) hz
        refine ⟨q1, q2, q3, q4.trans (pls_put _ _ _), fun hS hL => heads_skip (want_den hw) ?_⟩
        have := q5 hS hL
        rw [act_put] at this
        simpa only [V.den] using this
      · rename_i hw
        split at hh
        · cases hh
        · rename_i hb
          have lens : ∀ {i : Nat} {cl : List V}, h.get i = some (.cells cl true) → cl.length ≤ E.C i := fun he => ((g.ent he).2.2.2.1 rfl).1
          split at hh
          · rename_i b hl ht
            split at hh
            · rename_i v hv
              split at hh
              · rename_i e0 hgb
                have hbn : b.1 < h.n := g.wf.lt hgb
                have hlook : ∀ {i e}, oneLook h b.1 i = some e → i = b.1 ∧ h.get i = some e := fun {i e} he => by
                  unfold oneLook at he
                  split at he
                  · rename_i q
                    exact ⟨Nat.eq_of_beq_eq_true q, he⟩
                  · cases he
                have hvw : v.wf h.n h.zn := evQ_wf B.tyk (fun he => g.wf.wf (hlook he).2) (ev_wf ha) hv
                obtain ⟨q1, q2, q3, q4, q5⟩ := heads_ok B g (L := L) hh (put_wf ha hvw o.dst) (fun i hi => by
                  rcases List.mem_cons.1 hi with rfl | hi
                  · exact hbn
                  · exact hz i hi)
                refine ⟨q1, fun i hi => q2 i (List.mem_cons_of_mem _ hi), q3, q4.trans (pls_put _ _ _), fun hS hL => heads_load (v.den E) (want_den hw) (fun w' hs => ?_) hl ?_⟩
                · have hb2 := hS w' hs b (q2 b List.mem_cons_self)
                  exact evQ_ok B.tyk B.pe (fun i j => i = b.1 ∧ b.2.1 ≤ j ∧ j < b.2.2) (fun {i c u} he j v hj hv => by
                    obtain ⟨e1, he1⟩ := hlook he
                    subst e1
                    exact (hb2 _ he1).2 j v hj.2.1 hj.2.2 hv) (fun {i es c} he => by
                    obtain ⟨e1, he1⟩ := hlook he
                    subst e1
                    exact (hb2 _ he1).2) lens (ev_wf ha) (act_eval ha E) o (touch_ok ht) hb hv
                · have := q5 hS hL
                  rw [act_put] at this
                  exact this
              · cases hh
            · cases hh
          · split at hh
            · rename_i v hv
              have hvw : v.wf h.n h.zn := evQ_wf B.tyk (fun he => by cases he) (ev_wf ha) hv
              obtain ⟨q1, q2, q3, q4, q5⟩ := heads_ok B g (L := L) hh (put_wf ha hvw o.dst) hz
              refine ⟨q1, q2, q3, q4.trans (pls_put _ _ _), fun hS hL => heads_pure (v.den E) (want_den hw) (fun w' => ?_) ?_⟩
              · rename_i hnl
                exact evQ_ok B.tyk B.pe (fun _ _ => True) (fun he => by cases he) (fun he => by cases he) lens (ev_wf ha) (act_eval ha E) o (by cases o.op <;> simp [opK]) hb hv
              · have := q5 hS hL
                rw [act_put] at this
                exact this
            · cases hh
theorem Gd.setFz (g : Gd E w0 h w) {fz : List (Nat × Nat × Nat)} (hf : ∀ i ∈ fz, i.1 < h.n) : Gd E w0 (h.setFz fz) w := ⟨g.bel, ⟨g.wf.lt, g.wf.wf, hf⟩, g.ent, g.inj⟩
theorem put_pls (a : Ac) (d : Option Tmp) (v : V) : (a.put d v).pls = a.pls := by
  unfold Ac.put
  cases d with
  | none => rfl
  | some k => simp only; split <;> rfl
/-- A step of a function's call. -/
theorem call_ok (B : Env P tt ft hk w0 Q) (g : Gd E w0 h w) (ha : a.Wf h) {i : FI} {f : FuncId} {as : List V} {dst : Option Tmp} {cf : Cf} {K' : Exit → Act → World → Prop} {S : World → Prop} {L : Array Bool} (hi : ft f = some i) (hw : V.wfL h.n h.zn as)
    (he : enterF i as dst cf a h k = .go c' a' h' k') (hOk : Ok P w0 Q c' a' h' k') (hK : Kont P w0 Q E h (fzC cf h.fz) a.pls k K') (hf : ∀ i ∈ fzC cf h.fz, i ∈ h.fz) (hv : CfV a.pls cf) (hL : CfL L cf) (hA : SaOk S) (hS : okC cf = true → ∀ v, Hold E w0 h h.fz v → S v) :
    Calls P f (V.denL E as).toArray w fun e w' => ∃ v, e = .returned v ∧ ContP P S L K' cf ((a.act E).put dst v) w' := by
  unfold enterF at he
  split at he
  · rename_i cd hb hl
    cases he
    simp only [Nat.ble_eq] at hl
    obtain ⟨q1, _, q3⟩ := B.fnk f i hi
    refine calls_of_wp q1 hb ?_
    have := hOk E w _ g (enter_wf hw hl) (q3 _ hb) ⟨K', S, L, hK, hf, fun _ h => h, ha, hv, hL, hA, hS, rfl⟩ (fun _ h => h) (fun _ => True) (fun _ _ _ => trivial) fun _ _ _ => trivial
    rw [enter_act E hl] at this
    exact this
  · cases he
theorem stp_ok (B : Env P tt ft hk w0 Q) (hs : stp P tt ft hk c a h k = .go c' a' h' k') (hOk : Ok P w0 Q c' a' h' k') : Ok P w0 Q c a h k := by
  intro E w K g ha hv hK hf S hA hS
  have same : ∀ {K2 : Exit → Act → World → Prop} {c2 : Cf} {k2 : List KF}, Ok P w0 Q c2 a h k2 → CfV a.pls c2 → Kont P w0 Q E h (fzC c2 h.fz) a.pls k2 K2 → (∀ i ∈ fzC c2 h.fz, i ∈ h.fz) → CfP P (fun _ => True) K2 c2 (a.act E) w := fun o v q f => o E w _ g ha v q f (fun _ => True) (fun _ _ _ => trivial) fun _ _ _ => trivial
  cases c with
  | code c =>
    cases c with
    | skip => cases hs; exact wp_skip (same hOk trivial hK hf)
    | label l => cases hs; exact wp_label (same hOk trivial hK hf)
    | ret => cases hs; exact wp_ret (same hOk trivial hK hf)
    | exit i => cases hs; exact wp_exit (same hOk trivial hK hf)
    | seq x y =>
      cases hs
      simp only [CfV, plB, Bool.and_eq_true] at hv
      exact wp_seq (same (c2 := .code x) hOk hv.1 ⟨hv.2, K, hK, rfl⟩ hf)
    | block id c =>
      cases hs
      exact wp_block (same (c2 := .code c) hOk hv ⟨K, hK, rfl⟩ hf)
    | scope c =>
      cases hs
      exact wp_scope_straight (same (c2 := .code c) hOk hv ⟨K, hK, rfl⟩ hf)
    | loop c =>
      cases hs
      exact LW.wp (LW.of (same (c2 := .code c) hOk hv ⟨hv, K, hK, rfl⟩ hf))
    | cond x y z =>
      simp only [CfV, plB, Bool.and_eq_true] at hv
      simp only [stp] at hs
      split at hs
      · rename_i e
        cases hs
        exact wp_cond_true (by rw [act_eval ha, e, V.den]) (same (c2 := .code y) hOk hv.1 hK hf)
      · rename_i e
        cases hs
        exact wp_cond_false (by rw [act_eval ha, e, V.den]) (same (c2 := .code z) hOk hv.2 hK hf)
      · cases hs
    | region id l d =>
      cases d with
      | false =>
        cases hs
        have := same (c2 := .ops l.toList l.toList) hOk trivial hK hf
        exact wp_region_list (by simpa [CfP] using this)
      | true =>
        simp only [stp] at hs
        split at hs
        · rename_i p hp
          cases hs
          simp only [CfV, plB, hp, Bool.and_eq_true, decide_eq_true_eq] at hv
          obtain ⟨⟨⟨⟨v1, v2⟩, v3⟩, v5⟩, v4⟩ := hv
          have g2 := g.step (Kept.drew w (fun _ => False))
          have q := hOk E w.drew K g2 ha (by simp only [CfV, Bool.and_eq_true, Array.toArray_toList]; exact ⟨⟨v1, v2⟩, v5⟩) hK (fun _ h => h) (Hold E w0 h h.fz) (fun v o hh => hh.alloc o) (fun _ _ h => h)
          have q2 := q _ v3
          rw [v4] at q2
          have := region_start (P := P) (l := l.toList) (Q := K) (a := a.act E) (w := w) (id := id) p.M p.J (Hold E w0 h h.fz) B.mix q2
          show Code.wp P (.region id l true) K (a.act E) w
          simpa using this
        · cases hs
    | goto l => cases hs
    | rangeFunc f p x y => cases hs
    | refuse y => cases hs
  | ops l r =>
    cases r with
    | nil => cases hs; exact same (c2 := .ex .n) hOk trivial hK hf
    | cons o r =>
      simp only [stp] at hs
      split at hs
      · cases hs
      · rename_i hw
        cases hs
        refine wpList_off (want_den hw) ?_
        have := hOk E w K g (put_wf ha (by simp only [V.wf]) o.dst) trivial (by rw [put_pls]; exact hK) hf (fun _ => True) (fun _ _ _ => trivial) fun _ _ _ => trivial
        rw [act_put] at this
        simp only [V.den] at this
        exact this
      · rename_i hw
        split at hs
        · rename_i v h1 ho
          cases hs
          refine wpList_on (want_den hw) (op_val B g ha ho fun E' w' st hvw => ?_)
          have hK2 := kont_mono g.wf st.ext st.n st.zn k (fun i hi => st.fr i hi) (fun i hi => hi) hK
          have := hOk E' w' K st.gd (put_wf (wf_mono ha st.n st.zn) hvw o.dst) trivial (by rw [put_pls]; show Kont P w0 Q E' h' h'.fz _ k K; rw [st.fz]; exact hK2) (fun _ h => h) (fun _ => True) (fun _ _ _ => trivial) (fun _ _ _ => trivial)
          rw [act_put, act_ext ha st.ext] at this
          exact this
        · rename_i f as ho
          split at hs
          · rename_i i hi
            have hb : ∃ cd, i.fn.body = some cd := by
              unfold enterF at hs
              split at hs
              · rename_i cd hb _; exact ⟨cd, hb⟩
              · cases hs
            obtain ⟨cd, hb⟩ := hb
            exact wpList_on (want_den hw) (op_call B ha ho hi hb fun hwf => call_ok (S := fun _ => True) (L := #[]) B g ha hi hwf hs hOk hK (fun _ h => h) trivial trivial (fun _ _ _ => trivial) fun _ _ _ => trivial)
          · cases hs
        · cases hs
  | pl l p st fz ok =>
    simp only [CfV] at hv
    cases st with
    | nil =>
      cases hs
      intro L hL
      simp only [planB] at hL
      refine stage_done (by simpa using hL) ?_
      exact hOk E w K (g.setFz fun i hi => g.wf.fzl i (hf i hi)) ha trivial (kont_mono (h' := h.setFz fz) g.wf (Ext.refl _ _ _) (Nat.le_refl _) (Nat.le_refl _) k (fun _ _ => SameE.refl _ _ _) (fun _ h => h) hK) (fun _ h => h) (fun _ => True) (fun _ _ _ => trivial) (fun _ _ _ => trivial)
    | h hs' st =>
      simp only [stp] at hs
      split at hs
      · rename_i hnd
        split at hs
        · rename_i a2 z hh
          cases hs
          intro L hL
          simp only [planB, Bool.and_eq_true] at hL
          simp only [Bool.and_eq_true] at hv
          have fin : ∀ S' : World → Prop, SaOk S' → (∀ v, S' v → Hold E w0 h z v) → (∀ v, S' v → S v) → (okC (.pl l p st fz ok) = true → ∀ v, Hold E w0 (h.setFz z) z v → S' v) → ((hs'.all fun i => match l.toArray[i]? with | some o => !needy p.J i o | none => true) = true ∨ S' w) →
              Own.Rest P l.toArray p.M p.J S K (planN (.h hs' st)) L (a.act E) w := fun S' k0 k1 k2 k3 k4 => by
            obtain ⟨q1, q2, q3, q4, q5⟩ := heads_ok B g (L := fun A => Own.Rest P l.toArray p.M p.J S' K (planN st) (hs'.foldl (fun b i => b.setIfInBounds i true) L) A w) hh ha g.wf.fzl
            refine stage_switch (S := S) S' k2 ?_
            refine stage_heads hs' (by simp only [Bool.and_eq_true]; exact ⟨hv.1, hL.1⟩) rfl rfl (kont_pan B.pan k hK) k0 k4 ?_
            refine q5 k1 ?_
            have := hOk E w K (g.setFz q3) q1 (by simp only [CfV, Bool.and_eq_true]; exact hv) (by rw [q4]; exact kont_mono (h' := h.setFz z) g.wf (Ext.refl _ _ _) (Nat.le_refl _) (Nat.le_refl _) k (fun _ _ => SameE.refl _ _ _) (fun _ h => h) hK) (fun i hi => q2 i (hf i hi)) S' k0 k3
            exact this _ hL.2
          have qs := heads_ok B g (L := fun _ => True) hh ha g.wf.fzl
          cases ok with
          | true => exact fin (Hold E w0 h z) (fun v o hh => hh.alloc o) (fun _ h => h) (fun v hv => hS rfl v (hv.sub qs.2.1)) (fun _ _ h => h) (.inr (g.hold z))
          | false => exact fin (fun v => S v ∧ Hold E w0 h z v) (fun v o hh => ⟨hA v o hh.1, hh.2.alloc o⟩) (fun _ h => h.2) (fun _ h => h.1) nofun (.inl hnd)
        · cases hs
      · cases hs
    | o j st =>
      cases hs
      intro L hL
      simp only [planB, Bool.and_eq_true, beq_iff_eq] at hL
      refine stage_op j hL.1 rfl ?_
      exact hOk E w K g ha hv hK hf S hA hS L (by rw [hL.1]; exact List.mem_singleton.2 rfl) hL.2
    | w i j r q => cases hs
  | pw l p j st fz ok =>
    simp only [CfV] at hv
    simp only [stp] at hs
    split at hs
    · cases hs
    · rename_i o ho
      have tk : (l.drop j).take 1 = [o] := by
        rw [lget_eq] at ho
        obtain ⟨hl, he⟩ := List.getElem?_eq_some_iff.1 ho
        rw [List.drop_eq_getElem_cons hl, he]
        rfl
      have or2 : (ok || !p.J.testBit j) = true → p.J.testBit j = true → ok = true := fun h1 h2 => by cases ok <;> simp_all
      split at hs
      · rename_i hw hj
        cases hs
        intro L _ hL
        rw [tk]
        refine wpList_off (want_den hw) (step_post (fun q => hS (or2 hj q) _ (g.hold _)) ?_)
        have := hOk E w K g (put_wf ha (by simp only [V.wf]) o.dst) hv (by rw [put_pls]; exact hK) hf S hA hS
        rw [act_put] at this
        simp only [V.den] at this
        exact this _ hL
      · rename_i hw hj
        split at hs
        · rename_i v h1 hop
          cases hs
          intro L _ hL
          rw [tk]
          refine wpList_on (want_den hw) (op_val B g ha hop fun E' w' st' hvw => ?_)
          have hSS : ok = true → ∀ v, Hold E' w0 h' h'.fz v → S v := fun q v hh => hS q v (by
            rw [st'.fz] at hh
            exact hh.back g.wf st'.ext st'.fr)
          refine step_post (fun q => hSS (or2 hj q) _ (st'.gd.hold _)) ?_
          have hK2 := kont_mono g.wf st'.ext st'.n st'.zn k (fun i hi => st'.fr i (hf i hi)) (fun i hi => hi) hK
          have := hOk E' w' K st'.gd (put_wf (wf_mono ha st'.n st'.zn) hvw o.dst) hv (by rw [put_pls]; exact hK2) (fun i hi => by rw [st'.fz]; exact hf i hi) S hA hSS
          rw [act_put, act_ext ha st'.ext] at this
          exact this _ hL
        · rename_i f as hop
          split at hs
          · rename_i i hi
            have hb : ∃ cd, i.fn.body = some cd := by
              unfold enterF at hs
              split at hs
              · rename_i cd hb _; exact ⟨cd, hb⟩
              · cases hs
            obtain ⟨cd, hb⟩ := hb
            intro L _ hL
            rw [tk]
            refine wpList_on (want_den hw) (op_call B ha hop hi hb fun hwf => ?_)
            refine (call_ok (S := S) (L := L.setIfInBounds j true) B g ha hi hwf hs hOk hK hf hv hL hA hS).mono ?_
            rintro e w' ⟨v, rfl, q1, q2⟩
            exact ⟨v, rfl, step_post (fun q => q1 (or2 hj q)) q2⟩
          · cases hs
        · split at hs
          · rename_i v h1 hJ hop
            cases hs
            intro L _ hL
            rw [tk]
            have g2 : Gd E w0 (h.setFz fz) w := g.setFz fun i hi => g.wf.fzl i (hf i hi)
            have ha2 : a.Wf (h.setFz fz) := ha
            refine wpList_on (want_den hw) (op_val B g2 ha2 hop fun E' w' st' hvw => ?_)
            refine step_post (fun q => by rw [hJ] at q; cases q) ?_
            have hK2 := kont_mono (h' := h') g.wf st'.ext st'.n st'.zn k (fun i hi => st'.fr i hi) (fun i hi => hi) hK
            have := hOk E' w' K st'.gd (put_wf (wf_mono ha st'.n st'.zn) hvw o.dst) hv (by rw [put_pls]; exact hK2) (fun i hi => by rw [st'.fz]; exact hi) S hA nofun
            rw [act_put, act_ext ha st'.ext] at this
            exact this _ hL
          · cases hs
      · cases hs
  | ex e =>
    cases k with
    | nil => cases hs
    | cons x k =>
      cases x with
      | seq c =>
        obtain ⟨hp, K', hK', rfl⟩ := hK
        cases e with
        | n => cases hs; exact same (c2 := .code c) hOk hp hK' hf
        | exit q => cases hs; exact same (K2 := K') (c2 := .ex (.exit q)) hOk trivial hK' hf
        | goto q => cases hs; exact same (K2 := K') (c2 := .ex (.goto q)) hOk trivial hK' hf
        | ret => cases hs; exact same (K2 := K') (c2 := .ex .ret) hOk trivial hK' hf
      | lp c =>
        obtain ⟨hp, K', hK', rfl⟩ := hK
        cases e with
        | n => cases hs; exact LW.of (same (c2 := .code c) hOk hp ⟨hp, K', hK', rfl⟩ hf)
        | exit q => cases hs; exact same (K2 := K') (c2 := .ex (.exit q)) hOk trivial hK' hf
        | goto q => cases hs; exact same (K2 := K') (c2 := .ex (.goto q)) hOk trivial hK' hf
        | ret => cases hs; exact same (K2 := K') (c2 := .ex .ret) hOk trivial hK' hf
      | blk i =>
        obtain ⟨K', hK', rfl⟩ := hK
        cases e with
        | exit q =>
          simp only [stp] at hs
          split at hs
          · rename_i e
            cases hs
            have := same (c2 := .ex .n) hOk trivial hK' hf
            simp only [CfP, Exit.inBlock, Ex.out] at this ⊢
            rw [if_pos (Nat.eq_of_beq_eq_true e)]
            exact this
          · rename_i e
            cases hs
            have := same (c2 := .ex (.exit q)) hOk trivial hK' hf
            simp only [CfP, Exit.inBlock, Ex.out] at this ⊢
            rw [if_neg (fun q2 => by rw [q2, Nat.beq_refl] at e; cases e)]
            exact this
        | n => cases hs; exact same (K2 := K') (c2 := .ex .n) hOk trivial hK' hf
        | goto q => cases hs; exact same (K2 := K') (c2 := .ex (.goto q)) hOk trivial hK' hf
        | ret => cases hs; exact same (K2 := K') (c2 := .ex .ret) hOk trivial hK' hf
      | sc =>
        obtain ⟨K', hK', rfl⟩ := hK
        cases e with
        | goto q => cases hs
        | n => cases hs; exact same (K2 := K') (c2 := .ex .n) hOk trivial hK' hf
        | exit q => cases hs; exact same (K2 := K') (c2 := .ex (.exit q)) hOk trivial hK' hf
        | ret => cases hs; exact same (K2 := K') (c2 := .ex .ret) hOk trivial hK' hf
      | fr dst cf b fn fzS =>
        have fin : ∀ {l : List V}, resL tt a h fn.results.toList = some l → Ok P w0 Q cf (b.put dst (resV l)) (h.setFz fzS) k → (e = .n ∨ e = .ret) → CfP P S K (.ex e) (a.act E) w := fun {l} hl hO he => by
          obtain ⟨K', S', L, q1, q2, q3, q4, q5, q6, q8, q7, rfl⟩ := hK
          obtain ⟨r1, r2⟩ := results_ok (P := P) B.tyk g ha hl
          have hO2 := hO E w K' (g.setFz fun i hi => g.wf.fzl i (q3 i hi)) (put_wf (a := b) (h := h) q4 r2 dst) (by rw [put_pls]; exact q5) (by rw [put_pls]; exact kont_mono (h' := h.setFz fzS) g.wf (Ext.refl _ _ _) (Nat.le_refl _) (Nat.le_refl _) k (fun _ _ => SameE.refl _ _ _) (fun _ h => h) q1) q2 S' q8 q7
          rw [act_put] at hO2
          have key : ContP P S' L K' cf ((b.act E).put dst ((resV l).den E)) w := by
            cases cf with
            | ops l r => exact hO2
            | pl l p st fz ok => exact ⟨fun q => q7 q _ (g.hold _), hO2 _ q6⟩
            | code c => exact q6.elim
            | ex e => exact q6.elim
            | pw l p j r fz ok => exact q6.elim
          rcases he with rfl | rfl
          · exact ⟨rfl, _, r1, _, rfl, key⟩
          · exact ⟨rfl, _, r1, _, rfl, key⟩
        cases e with
        | n =>
          simp only [stp] at hs
          split at hs
          · rename_i l hl
            cases hs
            exact fin hl hOk (.inl rfl)
          · cases hs
        | ret =>
          simp only [stp] at hs
          split at hs
          · rename_i l hl
            cases hs
            exact fin hl hOk (.inr rfl)
          · cases hs
        | exit q => cases hs
        | goto q => cases hs
theorem enter_no {i : FI} {as : List V} {dst : Option Tmp} {cf : Cf} : (∃ c' a' h' k', enterF i as dst cf a h k = .go c' a' h' k') ∨ enterF i as dst cf a h k = .bad := by
  unfold enterF
  split
  · exact .inl ⟨_, _, _, _, rfl⟩
  · exact .inr rfl
/-- A stop, or two ways, come up in two places alone. -/
theorem stp_end {r : Rs} (hs : stp P tt ft hk c a h k = r) : (∃ c' a' h' k', r = .go c' a' h' k') ∨ r = .bad ∨ (∃ e, c = .ex e ∧ k = [] ∧ r = .fin e a h) ∨ (∃ l p i j x y fz ok, c = .pl l p (.w i j x y) fz ok ∧ r = .two (.pw l p i x fz ok) (.pw l p j y fz ok) a h k) := by
  subst hs
  have go : ∀ {c' a' h' k'}, (∃ c'' a'' h'' k'', Rs.go c' a' h' k' = .go c'' a'' h'' k'') := ⟨_, _, _, _, rfl⟩
  cases c with
  | code c =>
    cases c <;> first | exact .inl go | exact .inr (.inl rfl) | skip
    all_goals
      simp only [stp]
      split <;> first | exact .inl go | exact .inr (.inl rfl) | skip
      all_goals (split <;> first | exact .inl go | exact .inr (.inl rfl))
  | ops l r =>
    cases r with
    | nil => exact .inl go
    | cons o r =>
      simp only [stp]
      split
      · exact .inr (.inl rfl)
      · exact .inl go
      · split
        · exact .inl go
        · split
          · exact (enter_no).elim .inl fun e => .inr (.inl e)
          · exact .inr (.inl rfl)
        · exact .inr (.inl rfl)
  | pl l p st fz ok =>
    cases st with
    | nil => exact .inl go
    | h H r =>
      simp only [stp]
      split
      · split
        · exact .inl go
        · exact .inr (.inl rfl)
      · exact .inr (.inl rfl)
    | o j r => exact .inl go
    | w i j x y => exact .inr (.inr (.inr ⟨_, _, _, _, _, _, _, _, rfl, rfl⟩))
  | pw l p j r fz ok =>
    simp only [stp]
    split
    · exact .inr (.inl rfl)
    · split
      · exact .inl go
      · split
        · exact .inl go
        · split
          · exact (enter_no).elim .inl fun e => .inr (.inl e)
          · exact .inr (.inl rfl)
        · split
          · exact .inl go
          · exact .inr (.inl rfl)
      · exact .inr (.inl rfl)
  | ex e1 =>
    cases k with
    | nil => exact .inr (.inr (.inl ⟨e1, rfl, rfl, by cases e1 <;> rfl⟩))
    | cons x k =>
      cases x <;> cases e1 <;> first | exact .inl go | exact .inr (.inl rfl) | skip
      all_goals
        simp only [stp]
        split <;> first | exact .inl go | exact .inr (.inl rfl)
theorem two_ok {l : List Oper} {p : Pl} {i j : Nat} {x y : PT} {fz : List (Nat × Nat × Nat)} {ok : Bool} (h1 : Ok P w0 Q (.pw l p i x fz ok) a h k) (h2 : Ok P w0 Q (.pw l p j y fz ok) a h k) : Ok P w0 Q (.pl l p (.w i j x y) fz ok) a h k := by
  intro E w K g ha hv hK hf S hA hS L hL
  simp only [planB, Bool.and_eq_true, beq_iff_eq] at hL
  simp only [CfV, planE, Bool.and_eq_true, decide_eq_true_eq] at hv
  obtain ⟨⟨v1, v2⟩, ⟨v3, v4⟩, v5⟩ := hv
  refine stage_two i j hL.1.1 rfl rfl ?_ ?_
  · exact h1 E w K g ha (by simp only [CfV, Bool.and_eq_true]; exact ⟨⟨v1, v2⟩, v3⟩) hK hf S hA hS L (by rw [hL.1.1]; exact List.mem_cons_self) hL.1.2
  · have := h2 E w K g ha (by simp only [CfV, Bool.and_eq_true]; exact ⟨⟨v1, v2⟩, v4⟩) hK hf S hA hS L (by rw [hL.1.1]; exact List.mem_cons_of_mem _ List.mem_cons_self) hL.2
    rw [← v5] at this
    exact this
theorem run_ok (B : Env P tt ft hk w0 Q) {ck : Ex → Ac → Hp → Bool} (hQ : ∀ e a h, ck e a h = true → ∀ E w, Gd E w0 h w → a.Wf h → Q e.out (a.act E) w) : ∀ (n : Nat) (c : Cf) (a : Ac) (h : Hp) (k : List KF), run P tt ft hk ck n c a h k = true → Ok P w0 Q c a h k
  | 0, c, a, h, k, hr => by cases hr
  | n+1, c, a, h, k, hr => by
    rw [run] at hr
    rcases stp_end (P := P) (tt := tt) (ft := ft) (hk := hk) (c := c) (a := a) (h := h) (k := k) rfl with ⟨c', a', h', k', hs⟩ | hs | ⟨e, rfl, rfl, hs⟩ | ⟨l, p, i, j, x, y, fz, ok, rfl, hs⟩
    · rw [hs] at hr
      exact stp_ok B hs (run_ok B hQ n c' a' h' k' hr)
    · rw [hs] at hr
      cases hr
    · rw [hs] at hr
      intro E w K g ha _ hK _ S _ _
      rw [show K = Q from hK]
      exact hQ e a h hr E w g ha
    · rw [hs] at hr
      simp only [Bool.and_eq_true] at hr
      exact two_ok (run_ok B hQ n _ _ _ _ hr.1) (run_ok B hQ n _ _ _ _ hr.2)
end
section
variable {P : Program} {tt : TypeId → Option TJ} {ft : FuncId → Option FI} {hk : FuncId → List V → Hp → Option (V × Hp)}
def h0 : Hp := ⟨0, 0, .e, []⟩
/-- A run from the beginning tells a truth. -/
def tells (P : Program) (tt : TypeId → Option TJ) (ft : FuncId → Option FI) (hk : FuncId → List V → Hp → Option (V × Hp)) (f : FuncId) (as : List V) (n : Nat) : Bool := match ft f with
  | some i => match i.fn.body, Nat.ble as.length i.fn.ntmps with
    | some c, true => run P tt ft hk (fun e a h => match e, resL tt a h i.fn.results.toList with
        | .ret, some [.b true] => true
        | .n, some [.b true] => true
        | _, _ => false) n (.code c) ⟨argsT as 0 .e, i.fn.ntmps, i.pls⟩ h0 []
    | _, _ => false
  | none => false
theorem h0_gd (E : En) (w : World) : Gd E w h0 w := ⟨Below.refl _ _, ⟨nofun, nofun, nofun⟩, nofun, nofun⟩
/-- The run of a function whose arguments lie in no window. -/
theorem tells_ok {f : FuncId} {as : List V} {n : Nat} (w : World) (B : ∀ Q, PanOk Q → Env P tt ft hk w Q) (hw : V.wfL 0 0 as) (ht : tells P tt ft hk f as n = true) (E : En) :
    Calls P f (V.denL E as).toArray w fun e w' => e = .returned (.bool true) ∧ Below w.heap.size w w' := by
  unfold tells at ht
  split at ht
  · rename_i i hi
    split at ht
    · rename_i c hb hl
      simp only [Nat.ble_eq] at hl
      let R : Ending → World → Prop := fun e w' => e = .returned (.bool true) ∧ Below w.heap.size w w'
      have B1 := B (bodyPost P i.fn R) fun c a t w h => h
      obtain ⟨q1, _, q3⟩ := B1.fnk f i hi
      refine calls_of_wp q1 hb ?_
      have ok := run_ok B1 (fun e a h hc E w' g ha => by
        have hfin : (e = .ret ∨ e = .n) ∧ resL tt a h i.fn.results.toList = some [.b true] := by
          split at hc
          · exact ⟨.inl rfl, by assumption⟩
          · exact ⟨.inr rfl, by assumption⟩
          · cases hc
        obtain ⟨r1, _⟩ := results_ok (P := P) B1.tyk g ha hfin.2
        simp only [resV, V.den] at r1
        rcases hfin.1 with rfl | rfl
        · exact ⟨rfl, _, r1, rfl, g.bel⟩
        · exact ⟨rfl, _, r1, rfl, g.bel⟩) n _ _ _ _ ht
      have := ok E w _ (h0_gd E w) (enter_wf hw hl) (q3 c hb) rfl (fun _ h => h) (fun _ => True) (fun _ _ _ => trivial) fun _ _ _ => trivial
      rw [enter_act E hl] at this
      exact this
    · cases ht
  · cases ht
end
end Go.Proofs.Rn
