/- Several texts in one: Wc, Wp, Wq, Adc, Ws, Lo, Sgb, Sgr, Sgl, Sgy. What each proves stands ahead of it; together they serve wkeeps_law_holds,wfiles_law_holds,wnobody_law_holds. No conditions but those stated. -/
import Derived.Test.YtjdglpcnkiioeaaGreatWab27
import Derived.Test.YtjdglpcnkiioeaaGreatWab18
import Derived.Test.YtjdglpcnkiioeaaGreatWab7
import Derived.Test.YtjdglpcnkiioeaaGreatWab11
/- What a crash leaves of a log's pieces; plain. -/
namespace Go.Proofs.YtjdglpcnkiioeaaGreat
open Go.RowKit Go.Maps Go.Proofs.Own Go.Shelf

/-- Each file is what a crash leaves of it, by some tears. -/
def CrashTo : List FileS → List FileS → Prop
  | [], M => M = []
  | f :: r, M => ∃ us M', M = crash1 f us ++ M' ∧ CrashTo r M'
theorem crashTo_crashL : ∀ (L : List FileS) (ts : List (Nat × Nat)), CrashTo L (crashL L ts)
  | [], _ => rfl
  | f :: r, ts => ⟨ts, crashL r (tears1 f ts), rfl, crashTo_crashL r _⟩
theorem CrashTo.filter : ∀ {L M : List FileS}, CrashTo L M → CrashTo (L.filter isW) (M.filter isW)
  | [], M, h => by
    have : M = [] := h
    subst this
    rfl
  | f :: r, M, h => by
    obtain ⟨us, M', rfl, h2⟩ := h
    have ih := CrashTo.filter h2
    have hn : ∀ g ∈ crash1 f us, isW g = isW f := fun g hg => by
      unfold isW
      rw [crash1_name hg]
    rw [List.filter_append]
    by_cases hf : isW f = true
    · rw [List.filter_cons_of_pos hf, List.filter_eq_self.2 fun g hg => (hn g hg).trans hf]
      exact ⟨us, _, rfl, ih⟩
    · have he : (crash1 f us).filter isW = [] := List.filter_eq_nil_iff.2 fun g hg => by rw [hn g hg]; exact hf
      rw [List.filter_cons_of_neg hf, he]
      exact ih
theorem crash1_full {f : FileS} (h : f.kept = f.all.length) (hne : f.all ≠ []) (us : List (Nat × Nat)) : crash1 f us = [f] := by
  unfold crash1
  rw [if_neg (by omega), if_neg hne]
theorem CrashTo.full : ∀ {A B M : List FileS}, (∀ f ∈ A, f.kept = f.all.length ∧ f.all ≠ []) → CrashTo (A ++ B) M → ∃ M', M = A ++ M' ∧ CrashTo B M'
  | [], B, M, _, h => ⟨M, rfl, h⟩
  | f :: A, B, M, hA, h => by
    obtain ⟨us, M', rfl, h2⟩ := h
    obtain ⟨M2, rfl, h3⟩ := CrashTo.full (A := A) (fun g hg => hA g (List.mem_cons_of_mem _ hg)) h2
    obtain ⟨h4, h5⟩ := hA f (List.mem_cons_self ..)
    rw [crash1_full h4 h5]
    exact ⟨M2, rfl, h3⟩
/-- Lines as frames. -/
def linesF : Nat → List EntS → List (Nat × List Nat)
  | _, [] => []
  | i, e :: es => (2, lineB i e) :: linesF (i + 1) es
theorem framesW_lines : ∀ (es : List EntS) (i : Nat), framesW (linesF i es) = linesW i es
  | [], _ => rfl
  | e :: es, i => by
    show frP 2 (lineB i e) ++ framesW (linesF (i + 1) es) = frP 2 (lineB i e) ++ linesW (i + 1) es
    rw [framesW_lines es (i + 1)]
theorem linesF_take : ∀ (j : Nat) (es : List EntS) (i : Nat), (linesF i es).take j = linesF i (es.take j)
  | 0, _, _ => rfl
  | _ + 1, [], _ => rfl
  | j + 1, e :: es, i => by
    show (2, lineB i e) :: (linesF (i + 1) es).take j = (2, lineB i e) :: linesF (i + 1) (es.take j)
    rw [linesF_take j es (i + 1)]
theorem torn_lines (es : List EntS) (i : Nat) (x : Nat × Nat) : ∃ j R, tornL (linesW i es) x = linesW i (es.take j) ++ R ∧ takeE R ≠ 0 := by
  obtain ⟨j, R, _, h2, h3⟩ := torn_frames (linesF i es) x
  rw [framesW_lines, linesF_take, framesW_lines] at h2
  exact ⟨j, R, h2, h3⟩
theorem torn_seg (es : List EntS) (f : Nat) (x : Nat × Nat) : takeE (tornL (segW f es) x) ≠ 0 ∨ ∃ j R, tornL (segW f es) x = segW f (es.take j) ++ R ∧ takeE R ≠ 0 := by
  obtain ⟨j, R, _, h2, h3⟩ := torn_frames ((1, numW f) :: linesF f es) x
  have e : framesW ((1, numW f) :: linesF f es) = segW f es := by
    show frP 1 (numW f) ++ framesW (linesF f es) = _
    rw [framesW_lines]
    rfl
  rw [e] at h2
  match j with
  | 0 =>
    left
    rw [h2]
    exact h3
  | j + 1 =>
    right
    refine ⟨j, R, ?_, h3⟩
    rw [h2]
    show (frP 1 (numW f) ++ framesW ((linesF f es).take j)) ++ R = (headW f ++ linesW f (es.take j)) ++ R
    rw [linesF_take, framesW_lines]
    rfl
theorem segW_ne (f : Nat) (es : List EntS) : segW f es ≠ [] := fun h => by
  have := (List.append_eq_nil_iff.1 h).1
  have h2 := length_frP 1 (numW f)
  unfold headW at this
  rw [this] at h2
  simp at h2
/-- What is left of the last piece: bytes that are no piece, or none; or the piece with the first entries, and behind them no frame. -/
def Rest (f : Nat) (es : List EntS) (m : Nat) (M : List FileS) : Prop :=
  (m = 0 ∧ M = []) ∨ ∃ R, M = [⟨nameW f, R, R.length⟩] ∧ ((m = 0 ∧ takeE R ≠ 0) ∨ ∃ j R', m ≤ j ∧ j ≤ es.length ∧ R = segW f (es.take j) ++ R' ∧ takeE R' ≠ 0)
theorem crash_piece {z : Pc} {m : Nat} (h : (z.k = 0 ∧ m = 0) ∨ ∃ j, j ≤ z.es.length ∧ m ≤ j ∧ z.k = (segW z.f (z.es.take j)).length) (us : List (Nat × Nat)) : Rest z.f z.es m (crash1 z.file us) := by
  have hcut : ∀ {j R}, m ≤ j → takeE R ≠ 0 → ∃ j' R', m ≤ j' ∧ j' ≤ z.es.length ∧ segW z.f (z.es.take j) ++ R = segW z.f (z.es.take j') ++ R' ∧ takeE R' ≠ 0 := by
    intro j R hm hR
    by_cases hj : j ≤ z.es.length
    · exact ⟨j, R, hm, hj, rfl, hR⟩
    · by_cases hm2 : m ≤ z.es.length
      · refine ⟨z.es.length, R, hm2, Nat.le_refl _, ?_, hR⟩
        rw [List.take_of_length_le (by omega), List.take_length]
      · exfalso
        rcases h with ⟨_, h2⟩ | ⟨j', h1, h2, _⟩ <;> omega
  unfold crash1
  by_cases hk : z.file.kept < z.file.all.length
  · rw [if_pos hk]
    have hR : ∃ R, z.file.all.take z.file.kept ++ tornL (z.file.all.drop z.file.kept) (us.headD (0, 0)) = R ∧ ((m = 0 ∧ takeE R ≠ 0) ∨ ∃ j R', m ≤ j ∧ j ≤ z.es.length ∧ R = segW z.f (z.es.take j) ++ R' ∧ takeE R' ≠ 0) := by
      refine ⟨_, rfl, ?_⟩
      rcases h with ⟨h0, h1⟩ | ⟨j, h1, h2, h3⟩
      · have e : z.file.all.take z.file.kept ++ tornL (z.file.all.drop z.file.kept) (us.headD (0, 0)) = tornL (segW z.f z.es) (us.headD (0, 0)) := by
          show z.w.take z.k ++ tornL (z.w.drop z.k) _ = _
          rw [h0]
          rfl
        rw [e]
        rcases torn_seg z.es z.f (us.headD (0, 0)) with hx | ⟨j, R, hx, hR⟩
        · exact .inl ⟨h1, hx⟩
        · rw [hx]
          exact .inr (hcut (by omega) hR)
      · obtain ⟨j', R, hx, hR⟩ := torn_lines (z.es.drop j) (z.f + (z.es.take j).length) (us.headD (0, 0))
        have hw : z.w = segW z.f (z.es.take j) ++ linesW (z.f + (z.es.take j).length) (z.es.drop j) := by
          rw [← segW_app, List.take_append_drop]
          rfl
        have e : z.file.all.take z.file.kept ++ tornL (z.file.all.drop z.file.kept) (us.headD (0, 0)) = segW z.f (z.es.take (j + j')) ++ R := by
          show z.w.take z.k ++ tornL (z.w.drop z.k) _ = _
          rw [hw, h3, List.take_left' rfl, List.drop_left' rfl, hx, ← List.append_assoc, List.take_add, segW_app]
        rw [e]
        exact .inr (hcut (by omega) hR)
    obtain ⟨R, e, hR⟩ := hR
    rw [e]
    by_cases hn : R = []
    · rw [if_pos hn]
      subst hn
      rcases hR with ⟨h1, _⟩ | ⟨j, R', _, _, h3, _⟩
      · exact .inl ⟨h1, rfl⟩
      · exact absurd (List.append_eq_nil_iff.1 h3.symm).1 (segW_ne _ _)
    · rw [if_neg hn]
      exact .inr ⟨R, rfl, hR⟩
  · rw [if_neg hk, if_neg (show ¬ z.file.all = [] from segW_ne _ _)]
    have hk' : z.w.length ≤ z.k := by
      have : ¬ z.k < z.w.length := hk
      omega
    have hl : z.k = z.w.length := by
      rcases h with ⟨h0, _⟩ | ⟨j, h1, h2, h3⟩
      · have : 0 < z.w.length := List.length_pos_iff.2 (segW_ne _ _)
        omega
      · have := segW_take_le z.f z.es h1
        rw [List.take_length] at this
        have h4 : z.w.length = (segW z.f z.es).length := rfl
        omega
    refine .inr ⟨z.w, ?_, .inr ⟨z.es.length, [], ?_, Nat.le_refl _, ?_, by decide⟩⟩
    · show [(⟨nameW z.f, z.w, z.k⟩ : FileS)] = _
      rw [hl]
    · rcases h with ⟨_, h1⟩ | ⟨j, h1, h2, _⟩ <;> omega
    · rw [List.take_length, List.append_nil]
      rfl
/-- What a crash leaves of all pieces. -/
theorem crash_log {D : DiskS} {L : WalS} {A : List Pc} {z : Pc} (h : WInv D L (A ++ [z])) (ts : List (Nat × Nat)) : ∃ M, logF (crashD D ts) = A.map Pc.file ++ M ∧ Rest z.f z.es (L.safe - (esOf A).length) M := by
  have hc := (crashTo_crashL D.files ts).filter
  have hf : D.files.filter isW = A.map Pc.file ++ [z.file] := by
    have := h.fil
    rw [List.map_append] at this
    exact this
  rw [hf] at hc
  have hfull : ∀ p ∈ A, p.k = p.w.length ∧ 1024 ≤ p.w.length ∧ p.es ≠ [] := by have := h.full; rwa [List.dropLast_concat] at this
  obtain ⟨M, h1, us, M', h2, h3⟩ := CrashTo.full (fun f hf => by
    obtain ⟨p, hp, rfl⟩ := List.mem_map.1 hf
    exact ⟨(hfull p hp).1, segW_ne _ _⟩) hc
  have h3' : M' = [] := h3
  refine ⟨M, h1, ?_⟩
  rw [h2, h3', List.append_nil]
  refine crash_piece ?_ us
  obtain ⟨s1, s2⟩ := h.kept A z rfl
  rcases s2 with ⟨p0, p1, _⟩ | ⟨j, j1, j2, j3⟩
  · exact .inl ⟨p0, by omega⟩
  · exact .inr ⟨j, j1, by omega, j3⟩
theorem crash_none {D : DiskS} {L : WalS} (h : WInv D L []) (ts : List (Nat × Nat)) : logF (crashD D ts) = [] := by
  have hc := (crashTo_crashL D.files ts).filter
  have hf : D.files.filter isW = [] := h.fil
  rw [hf] at hc
  exact hc
theorem rising_crash : ∀ {L : List FileS} (ts : List (Nat × Nat)), Rising L → Rising (crashL L ts)
  | [], _, _ => List.Pairwise.nil
  | f :: r, ts, h => by
    obtain ⟨h1, h2⟩ := List.pairwise_cons.1 h
    refine List.pairwise_append.2 ⟨?_, rising_crash _ h2, fun x hx y hy => ?_⟩
    · have := length_crash1 f ts
      match e : crash1 f ts, this with
      | [], _ => exact List.Pairwise.nil
      | [x], _ => exact List.pairwise_singleton _ _
      | _ :: _ :: _, hl => simp at hl
    · obtain ⟨g, hg, e⟩ := crashL_name hy
      rw [crash1_name hx, e]
      exact h1 g hg
end Go.Proofs.YtjdglpcnkiioeaaGreat

/- What Open makes of a log's pieces behind a crash; plain. -/
namespace Go.Proofs.YtjdglpcnkiioeaaGreat
open Go.RowKit Go.Maps Go.Proofs.Own Go.Shelf

/-- The log of some pieces, as it is read. -/
def LB (b : Nat) (B : List Pc) : WalS := ⟨if B = [] then 0 else b, esOf B, B.map Pc.wf, 0⟩
/-- .. and as it is opened. -/
def LO (b : Nat) (B : List Pc) : WalS := ⟨b, esOf B, B.map Pc.wf, (esOf B).length⟩
/-- A piece that may be. -/
def PcOk (p : Pc) : Prop := 1 ≤ p.f ∧ p.f ≤ H59 ∧ (∀ e ∈ p.es, e.ok) ∧ p.f + p.es.length ≤ H59 + 1
theorem PcOk.in60 {p : Pc} (h : PcOk p) : 1 ≤ p.f ∧ p.f < 1152921504606846976 := by
  have := h.2.1
  unfold H59 at this
  exact ⟨h.1, by omega⟩
theorem PcOk.reads {p : Pc} (h : PcOk p) {R : List Nat} (hR : takeE R ≠ 0) : segR (p.w ++ R) = ⟨p.f, p.es, p.w.length⟩ := by
  have h1 := h.in60
  have h2 := h.2.2.2
  unfold H59 at h2
  exact segR_stop h1.1 (by omega) h.2.2.1 (by unfold M64; omega) hR
theorem seg_junk {R : List Nat} (h : takeE R ≠ 0) : segR R = ⟨0, [], 0⟩ := by
  unfold segR
  exact segF_stop h _
theorem LB_last (b : Nat) (B : List Pc) (h : B ≠ []) : (LB b B).last = b + (esOf B).length := by
  unfold WalS.last LB
  rw [if_neg h]
theorem take_piece {b : Nat} {B : List Pc} {a : Pc} (ha : PcOk a) (hf : a.f = b + 1 + (esOf B).length) {R : List Nat} (hR : takeE R ≠ 0) {last : Bool} (hl : last = true ∨ R = []) :
    takeW (LB b B) a.f (a.w ++ R) last = (true, LB b (B ++ [a]), 0) := by
  unfold takeW
  rw [ha.reads hR]
  simp only
  rw [if_neg (by simp), if_neg ?_]
  · congr 1
    congr 1
    unfold LB
    have h1 : ¬ B ++ [a] = [] := by simp
    rw [if_neg h1, esOf_app, esOf_one, List.map_append]
    by_cases hB : B = []
    · subst hB
      simp only [List.map_nil, if_true]
      have : a.f - 1 = b := by
        have e : (esOf ([] : List Pc)).length = 0 := rfl
        omega
      rw [this]
      rfl
    · have hm : ¬ B.map Pc.wf = [] := fun e => hB (List.map_eq_nil_iff.1 e)
      simp only [if_neg hB, if_neg hm]
      rfl
  · rintro (h | ⟨h1, h2⟩ | ⟨h1, h2⟩)
    · exact h rfl
    · rcases hl with rfl | rfl
      · cases h1
      · rw [List.append_nil] at h2
        exact h2 rfl
    · have hB : B ≠ [] := by
        rintro rfl
        exact h1 rfl
      rw [LB_last b B hB] at h2
      omega
theorem take_junk {L : WalS} {f : Nat} (hf : 1 ≤ f) {R : List Nat} (hR : takeE R ≠ 0) : takeW L f R true = (false, L, 0) := by
  unfold takeW
  rw [seg_junk hR]
  rw [if_pos ⟨by show 0 ≠ f; omega, rfl⟩]
theorem fileE_of {D : DiskS} {n : ByteArray} {f : FileS} (hd : D.down = false) (hf : findFile n D.files = some f) : fileE D n = 0 := by
  rw [fileE_some hf, if_neg (by rw [hd]; decide)]
/-- Whole pieces are read one by one. -/
theorem load_full {D : DiskS} (hd : D.down = false) (b : Nat) : ∀ (A B : List Pc) (r : List ByteArray), Chain (b + 1) (B ++ A) → (∀ a ∈ A, PcOk a ∧ findFile (nameW a.f) D.files = some a.file) →
    loadW (A.map (fun a => nameW a.f) ++ r) D (LB b B) = loadW r D (LB b (B ++ A))
  | [], B, r, _, _ => by rw [List.append_nil]; rfl
  | a :: A, B, r, hc, h => by
    obtain ⟨h1, h2⟩ := h a (List.mem_cons_self ..)
    have hfirst : a.f = b + 1 + (esOf B).length := (Chain.app.1 hc).2.1
    have ih := load_full hd b A (B ++ [a]) r (by rw [List.append_assoc]; exact hc) (fun x hx => h x (List.mem_cons_of_mem _ hx))
    rw [List.append_assoc] at ih
    show loadW (nameW a.f :: (A.map (fun a => nameW a.f) ++ r)) D (LB b B) = _
    conv => lhs; unfold loadW
    have ht : ∀ last, takeW (LB b B) (firstN (natsOf (nameW a.f))) (getF D (nameW a.f)).all last = (true, LB b (B ++ [a]), 0) := by
      intro last
      rw [first_nameW h1.in60.1 h1.in60.2, getF_some h2]
      have := take_piece h1 hfirst (R := []) (by decide) (last := last) (.inr rfl)
      rw [List.append_nil] at this
      exact this
    rw [if_neg (by rw [fileE_of hd h2]; decide), ht]
    exact ih
-- FILES AMONG ALL, WHATEVER BYTES THEY HAVE
theorem raw_find {D : DiskS} {X Y : List FileS} {g : FileS} (hr : Rising D.files) (hf : logF D = X ++ g :: Y) (hn : firstN (natsOf g.name) ≠ 0) : findFile g.name D.files = some g := by
  rw [← find_filter hn]
  show findFile g.name (logF D) = _
  have := rising_logF hr
  rw [hf] at this ⊢
  exact find_mid this
theorem raw_del {D : DiskS} {X Y : List FileS} {g : FileS} (hr : Rising D.files) (hf : logF D = X ++ g :: Y) : (delFile g.name D.files).filter isW = X ++ Y := by
  rw [filter_del]
  show delFile g.name (logF D) = _
  have := rising_logF hr
  rw [hf] at this ⊢
  exact del_mid this
theorem raw_put {D : DiskS} {X Y : List FileS} {g g' : FileS} (hr : Rising D.files) (hf : logF D = X ++ g :: Y) (hn : firstN (natsOf g.name) ≠ 0) (he : g'.name = g.name) : (putFile g' D.files).filter isW = X ++ g' :: Y := by
  rw [filter_put_yes (by unfold isW; rw [he]; exact decide_eq_true hn) hr]
  show putFile g' (logF D) = _
  have := rising_logF hr
  rw [hf] at this ⊢
  exact put_mid this he
theorem remove_calm {D : DiskS} (h : Calm D) {n : ByteArray} {f : FileS} (hf : findFile n D.files = some f) : (removeD D n).2 = 0 ∧ Calm (removeD D n).1 ∧ (removeD D n).1.files = delFile n D.files := by
  have hr : removeD D n = ({ stepD D with files := delFile n D.files }, 0) := by
    unfold removeD
    rw [hf]
    simp only
    rw [if_neg (by rw [h.1]; decide), if_neg (by rw [h.2]; decide)]
  rw [hr]
  exact ⟨rfl, h.step _, rfl⟩
theorem sync_calmF {D : DiskS} (h : Calm D) {n : ByteArray} {f : FileS} (hf : findFile n D.files = some f) : (syncD D n).2 = 0 ∧ Calm (syncD D n).1 ∧ (syncD D n).1.files = putFile { f with kept := f.all.length } D.files := by
  have hr : syncD D n = ({ stepD D with files := putFile { f with kept := f.all.length } D.files }, 0) := by
    unfold syncD
    rw [hf]
    simp only
    rw [if_neg (by rw [h.1]; decide), if_neg (by rw [h.2]; decide)]
  rw [hr]
  exact ⟨rfl, h.step _, rfl⟩
theorem cut_calmF {D : DiskS} (h : Calm D) {n : ByteArray} {f : FileS} (hf : findFile n D.files = some f) {k : Nat} (hk : k ≤ f.all.length) : (cutD D n k).2 = 0 ∧ Calm (cutD D n k).1 ∧ (cutD D n k).1.files = putFile ⟨f.name, f.all.take k, min f.kept k⟩ D.files := by
  have hr : cutD D n k = ({ stepD D with files := putFile ⟨f.name, f.all.take k, min f.kept k⟩ D.files }, 0) := by
    unfold cutD
    rw [hf]
    simp only
    rw [if_neg (by rw [h.1]; decide), if_neg (by omega), if_neg (by rw [h.2]; decide), Int.toNat_natCast]
  rw [hr]
  exact ⟨rfl, h.step _, rfl⟩
/-- The last file is cut to what is whole, and synced. -/
theorem settle_law {D : DiskS} (hc : Calm D) (hr : Rising D.files) {X : List FileS} {z : Pc} (hz : PcOk z) {R : List Nat} {k : Nat} (hf : logF D = X ++ [⟨nameW z.f, z.w ++ R, k⟩]) {L : WalS} (hL : L.fs.getLast? = some z.wf) :
    (settleW D L).2 = 0 ∧ Calm (settleW D L).1 ∧ Rising (settleW D L).1.files ∧ logF (settleW D L).1 = X ++ [⟨nameW z.f, z.w, z.w.length⟩] := by
  have hn : firstN (natsOf (nameW z.f)) ≠ 0 := isW_name hz.in60
  have hfd := raw_find hr hf hn
  have hsync : ∀ {D' : DiskS} {k' : Nat}, Calm D' → Rising D'.files → logF D' = X ++ [⟨nameW z.f, z.w, k'⟩] →
      (syncD D' (nameW z.f)).2 = 0 ∧ Calm (syncD D' (nameW z.f)).1 ∧ Rising (syncD D' (nameW z.f)).1.files ∧ logF (syncD D' (nameW z.f)).1 = X ++ [⟨nameW z.f, z.w, z.w.length⟩] := by
    intro D' k' c1 c2 c3
    obtain ⟨s1, s2, s3⟩ := sync_calmF c1 (raw_find c2 c3 hn)
    refine ⟨s1, s2, ?_, ?_⟩
    · rw [s3]
      exact c2.put _
    · unfold logF
      rw [s3]
      exact raw_put c2 c3 hn rfl
  unfold settleW
  rw [hL]
  simp only
  have hwf : z.wf.f = z.f := rfl
  rw [hwf, if_neg (by rw [fileE_of hc.1 hfd]; decide), getF_some hfd]
  have hlen : (z.w ++ R).length = z.w.length + R.length := List.length_append
  by_cases hs : z.wf.s < (z.w ++ R).length
  · rw [if_pos hs]
    obtain ⟨c1, c2, c3⟩ := cut_calmF hc hfd (k := z.w.length) (by show z.w.length ≤ (z.w ++ R).length; omega)
    have hs2 : z.wf.s = z.w.length := rfl
    rw [hs2, if_neg (by rw [c1]; decide)]
    refine hsync (k' := min k z.w.length) c2 (by rw [c3]; exact hr.put _) ?_
    unfold logF
    rw [c3]
    have := raw_put (g' := ⟨nameW z.f, (z.w ++ R).take z.w.length, min k z.w.length⟩) hr hf hn rfl
    rw [List.take_left' rfl] at this
    show (putFile ⟨nameW z.f, (z.w ++ R).take z.w.length, min k z.w.length⟩ D.files).filter isW = _
    rw [List.take_left' rfl]
    exact this
  · rw [if_neg hs]
    have hR : R = [] := by
      have : ¬ z.w.length < (z.w ++ R).length := hs
      exact List.length_eq_zero_iff.1 (by omega)
    subst hR
    rw [List.append_nil] at hf
    exact hsync hc hr hf
theorem close_law (D : DiskS) {b : Nat} (hb : b < H59) (P : List Pc) : closeW D (LB b P) b = (D, some (LO b P), 0) := by
  unfold closeW
  by_cases hP : P = []
  · subst hP
    have h1 : (LB b []).fs = [] := rfl
    have hr : resetW D (LB b []) b = (D, ⟨b, [], [], 0⟩, 0) := by
      unfold resetW
      rw [if_neg (by omega)]
      rfl
    simp only [h1, true_or, if_true, hr]
    rw [if_neg (by decide), if_neg (by omega)]
    rfl
  · have h1 : ¬ (LB b P).fs = [] := fun e => hP (List.map_eq_nil_iff.1 e)
    have h2 : ¬ (LB b P).last < b := by
      rw [LB_last b P hP]
      omega
    have h3 : (LB b P).b = b := if_neg hP
    have h4 : ¬ ((LB b P).fs = [] ∨ (LB b P).last < b) := fun h => h.elim h1 h2
    simp only [if_neg h4]
    rw [if_neg (by decide), h3, if_neg (by omega)]
    unfold LO LB
    rw [if_neg hP]
/-- A log of whole pieces, all kept. -/
theorem winv_full {D : DiskS} {b : Nat} {P : List Pc} (hb : b < H59) (hf : logF D = P.map Pc.file) (hch : Chain (b + 1) P) (hok : ∀ p ∈ P, PcOk p) (hk : ∀ p ∈ P, p.k = p.w.length) (hfull : ∀ p ∈ P.dropLast, 1024 ≤ p.w.length ∧ p.es ≠ []) (hhi : b + (esOf P).length ≤ H59) :
    WInv D (LO b P) P := by
  refine ⟨hf, rfl, rfl, hch, ?_, hhi, ?_, Nat.le_refl _, ?_, hb, fun p hp => (hok p hp).2.1⟩
  · intro e he
    obtain ⟨p, hp, h⟩ := List.mem_flatMap.1 he
    exact (hok p hp).2.2.1 e h
  · intro p hp
    exact ⟨hk p ((List.dropLast_sublist P).subset hp), hfull p hp⟩
  · intro A z e
    subst e
    show (esOf A).length ≤ (esOf (A ++ [z])).length ∧ _
    rw [esOf_app, esOf_one, List.length_append]
    refine ⟨by omega, .inr ⟨z.es.length, Nat.le_refl _, ?_, ?_⟩⟩
    · show (esOf (A ++ [z])).length ≤ _
      rw [esOf_app, esOf_one, List.length_append]
      exact Nat.le_refl _
    · rw [List.take_length, hk z (List.mem_append_right _ (List.mem_singleton_self z))]
      rfl
/-- What Open tells of pieces and of what a crash left of the last one. -/
def Opened (D : DiskS) (b : Nat) (es : List EntS) (m n : Nat) : Prop :=
  ∃ D2 L2 P2, openW D b = (D2, some L2, 0) ∧ Calm D2 ∧ Rising D2.files ∧ WInv D2 L2 P2 ∧ L2.b = b ∧ L2.safe = L2.es.length ∧ ∃ j, m ≤ j ∧ j ≤ n ∧ L2.es = es.take j
theorem openW_calm {D : DiskS} (hc : Calm D) {b : Nat} (hb : b < H59) {D1 : DiskS} {L1 : WalS} (hl : loadW (namesW D) D (LB b []) = (D1, L1, 0)) : openW D b = openE D1 L1 b := by
  have hl' : loadW (namesW D) D ⟨0, [], [], 0⟩ = (D1, L1, 0) := hl
  unfold openW
  rw [if_neg (by rw [hc.1]; decide), if_neg (by omega), hl', if_neg (fun h => h rfl)]
theorem open_law {D : DiskS} (hc : Calm D) (hr : Rising D.files) {b : Nat} (hb : b < H59) {A : List Pc} {z : Pc} {m : Nat} {M : List FileS}
    (hlog : logF D = A.map Pc.file ++ M) (hM : Rest z.f z.es m M) (hch : Chain (b + 1) (A ++ [z])) (hok : ∀ p ∈ A ++ [z], PcOk p) (hfull : ∀ p ∈ A, p.k = p.w.length ∧ 1024 ≤ p.w.length ∧ p.es ≠ []) (hhi : b + (esOf (A ++ [z])).length ≤ H59) :
    Opened D b (esOf (A ++ [z])) ((esOf A).length + m) (esOf (A ++ [z])).length := by
  have hokA : ∀ p ∈ A, PcOk p := fun p hp => hok p (List.mem_append_left _ hp)
  have hokz : PcOk z := hok z (List.mem_append_right _ (List.mem_singleton_self z))
  have hchA := (Chain.app.1 hch).1
  have hzf : z.f = b + 1 + (esOf A).length := (Chain.app.1 hch).2.1
  have hel : (esOf (A ++ [z])).length = (esOf A).length + z.es.length := by rw [esOf_app, esOf_one, List.length_append]
  have hfind : ∀ {D' : DiskS} {Y : List FileS}, Rising D'.files → logF D' = A.map Pc.file ++ Y → ∀ a ∈ A, PcOk a ∧ findFile (nameW a.f) D'.files = some a.file := by
    intro D' Y r1 r2 a ha
    obtain ⟨A1, A2, rfl⟩ := List.append_of_mem ha
    refine ⟨hokA a ha, ?_⟩
    rw [List.map_append, List.map_cons, List.append_assoc, List.cons_append] at r2
    exact raw_find (g := a.file) r1 r2 (isW_name (hokA a ha).in60)
  have hnames : namesW D = A.map (fun a => nameW a.f) ++ M.map (·.name) := by
    unfold namesW
    rw [hlog, List.map_append, List.map_map]
    rfl
  have hload : loadW (namesW D) D (LB b []) = loadW (M.map (·.name)) D (LB b A) := by
    rw [hnames]
    exact load_full hc.1 b A [] _ hchA (hfind hr hlog)
  -- pieces alone
  have hall : ∀ {D' : DiskS}, Calm D' → Rising D'.files → logF D' = A.map Pc.file → m = 0 → openW D b = openE D' (LB b A) b → Opened D b (esOf (A ++ [z])) ((esOf A).length + m) (esOf (A ++ [z])).length := by
    intro D' c1 c2 c3 hm he
    have htake : (esOf (A ++ [z])).take (esOf A).length = esOf A := by
      rw [esOf_app]
      exact List.take_left' rfl
    have hw : ∀ {D2 : DiskS}, logF D2 = A.map Pc.file → WInv D2 (LO b A) A := fun hf =>
      winv_full hb hf hchA hokA (fun p hp => (hfull p hp).1) (fun p hp => (hfull p ((List.dropLast_sublist A).subset hp)).2) (by omega)
    have hend : ∀ {D2 : DiskS}, Calm D2 → Rising D2.files → logF D2 = A.map Pc.file → openW D b = (D2, some (LO b A), 0) → Opened D b (esOf (A ++ [z])) ((esOf A).length + m) (esOf (A ++ [z])).length := fun d1 d2 d3 d4 =>
      ⟨_, LO b A, A, d4, d1, d2, hw d3, rfl, rfl, (esOf A).length, by omega, by omega, htake.symm⟩
    by_cases hA : A = []
    · subst hA
      have hs : settleW D' (LB b []) = (D', 0) := rfl
      refine hend c1 c2 c3 ?_
      rw [he]
      unfold openE
      rw [hs, if_neg (fun h => h rfl)]
      exact close_law D' hb []
    · obtain ⟨A', y, rfl⟩ := split_last hA
      have hy := hfull y (List.mem_append_right _ (List.mem_singleton_self y))
      have hL : (LB b (A' ++ [y])).fs.getLast? = some y.wf := by
        show ((A' ++ [y]).map Pc.wf).getLast? = _
        rw [List.map_append]
        simp
      have c3' : logF D' = A'.map Pc.file ++ [⟨nameW y.f, y.w ++ [], y.k⟩] := by
        rw [c3, List.map_append, List.append_nil]
        rfl
      obtain ⟨s1, s2, s3, s4⟩ := settle_law c1 c2 (hokA y (List.mem_append_right _ (List.mem_singleton_self y))) c3' hL
      refine hend s2 s3 ?_ ?_
      · rw [s4, List.map_append]
        show _ = A'.map Pc.file ++ [(⟨nameW y.f, y.w, y.k⟩ : FileS)]
        rw [hy.1]
      · rw [he]
        unfold openE
        rw [if_neg (by rw [s1]; decide)]
        exact close_law _ hb _
  rcases hM with ⟨h1, rfl⟩ | ⟨R, rfl, h⟩
  · refine hall hc hr (by rw [hlog, List.append_nil]) h1 (openW_calm hc hb ?_)
    rw [hload]
    rfl
  · have hn : firstN (natsOf (nameW z.f)) = z.f := first_nameW hokz.in60.1 hokz.in60.2
    have hfd := raw_find (g := ⟨nameW z.f, R, R.length⟩) hr hlog (isW_name hokz.in60)
    rcases h with ⟨h1, h2⟩ | ⟨j, R', j1, j2, rfl, h2⟩
    · -- no piece: it goes
      obtain ⟨r1, r2, r3⟩ := remove_calm hc hfd
      have hrm : loadW [nameW z.f] D (LB b A) = ((removeD D (nameW z.f)).1, LB b A, 0) := by
        unfold loadW
        rw [if_neg (by rw [fileE_of hc.1 hfd]; decide), hn, getF_some hfd]
        have ht := take_junk (L := LB b A) hokz.1 h2
        rw [show (decide (([] : List ByteArray) = [])) = true from rfl, ht, if_pos rfl]
        rw [if_neg (by rw [r1]; decide)]
        rfl
      refine hall (D' := (removeD D (nameW z.f)).1) r2 (by rw [r3]; exact hr.del _) ?_ h1 (openW_calm hc hb (by rw [hload]; exact hrm))
      unfold logF
      rw [r3]
      have := raw_del hr hlog
      rwa [List.append_nil] at this
    · -- the piece, with the first entries
      have hz' : PcOk ⟨z.f, z.es.take j, (segW z.f (z.es.take j)).length⟩ := by
        refine ⟨hokz.1, hokz.2.1, fun e he => hokz.2.2.1 e (List.mem_of_mem_take he), ?_⟩
        have := hokz.2.2.2
        show z.f + (z.es.take j).length ≤ H59 + 1
        rw [List.length_take]
        omega
      generalize hzz : (⟨z.f, z.es.take j, (segW z.f (z.es.take j)).length⟩ : Pc) = z' at hz'
      have ef : z'.f = z.f := by rw [← hzz]
      have ees : z'.es = z.es.take j := by rw [← hzz]
      have ew : z'.w = segW z.f (z.es.take j) := by rw [← hzz]; rfl
      have ek : z'.k = z'.w.length := by rw [ew, ← hzz]
      rw [← ew] at hfd hlog hload
      rw [← ef] at hfd hlog hload
      have hrm : loadW [nameW z'.f] D (LB b A) = (D, LB b (A ++ [z']), 0) := by
        unfold loadW
        rw [if_neg (by rw [fileE_of hc.1 hfd]; decide), first_nameW hz'.in60.1 hz'.in60.2, getF_some hfd]
        have ht := take_piece (b := b) (B := A) hz' (by rw [ef, hzf]) h2 (last := true) (.inl rfl)
        rw [show (decide (([] : List ByteArray) = [])) = true from rfl]
        show (if (takeW (LB b A) z'.f (z'.w ++ R') true).1 = false then _ else _) = _
        rw [ht, if_neg (fun h => by cases h), if_neg (fun h => h rfl)]
        rfl
      have hL : (LB b (A ++ [z'])).fs.getLast? = some z'.wf := by
        show ((A ++ [z']).map Pc.wf).getLast? = _
        rw [List.map_append]
        simp
      obtain ⟨s1, s2, s3, s4⟩ := settle_law hc hr hz' hlog hL
      have he : openW D b = ((settleW D (LB b (A ++ [z']))).1, some (LO b (A ++ [z'])), 0) := by
        rw [openW_calm hc hb (by rw [hload]; exact hrm)]
        unfold openE
        rw [if_neg (by rw [s1]; decide)]
        exact close_law _ hb _
      have hes : esOf (A ++ [z']) = (esOf (A ++ [z])).take ((esOf A).length + j) := by
        rw [esOf_app, esOf_app, esOf_one, esOf_one, ees, List.take_length_add_append]
      refine ⟨_, LO b (A ++ [z']), A ++ [z'], he, s2, s3, winv_full hb ?_ ?_ ?_ ?_ ?_ ?_, rfl, rfl, (esOf A).length + j, by omega, by omega, hes⟩
      · rw [s4, List.map_append]
        show _ = A.map Pc.file ++ [(⟨nameW z'.f, z'.w, z'.k⟩ : FileS)]
        rw [ek]
      · exact Chain.app.2 ⟨hchA, by rw [ef]; exact hzf, trivial⟩
      · intro p hp
        rcases List.mem_append.1 hp with hp | hp
        · exact hokA p hp
        · obtain rfl := List.mem_singleton.1 hp
          exact hz'
      · intro p hp
        rcases List.mem_append.1 hp with hp | hp
        · exact (hfull p hp).1
        · obtain rfl := List.mem_singleton.1 hp
          exact ek
      · rw [List.dropLast_concat]
        intro p hp
        exact (hfull p hp).2
      · rw [hes, List.length_take]
        omega
end Go.Proofs.YtjdglpcnkiioeaaGreat

/- A log behind a crash: all that was safe, and some of what was written since; plain. -/
namespace Go.Proofs.YtjdglpcnkiioeaaGreat
open Go.RowKit Go.Maps Go.Proofs.Own Go.Shelf

theorem calm_boot (D : DiskS) (ts : List (Nat × Nat)) : Calm (bootD (crashD D ts)) := ⟨rfl, rfl⟩
theorem rising_boot {D : DiskS} (h : Rising D.files) (ts : List (Nat × Nat)) : Rising (bootD (crashD D ts)).files := rising_crash ts h
theorem pcOk_of {D : DiskS} {L : WalS} {P : List Pc} (h : WInv D L P) {p : Pc} (hp : p ∈ P) : PcOk p := by
  obtain ⟨h1, _, _, h4⟩ := h.range p hp
  refine ⟨h1, h.lo.2 p hp, fun e he => h.ok e ?_, ?_⟩
  · rw [h.es]
    exact List.mem_flatMap.2 ⟨p, hp, he⟩
  · have := h.hi
    unfold WalS.last at h4
    omega
theorem open_none {D : DiskS} (hc : Calm D) {b : Nat} (hb : b < H59) (hl : logF D = []) : openW D b = (D, some (LO b []), 0) ∧ WInv D (LO b []) [] := by
  refine ⟨?_, winv_full hb hl trivial (fun p hp => by cases hp) (fun p hp => by cases hp) (fun p hp => by cases hp) (by show b + 0 ≤ H59; omega)⟩
  have hn : namesW D = [] := by
    unfold namesW
    rw [hl]
    rfl
  rw [openW_calm hc hb (D1 := D) (L1 := LB b []) (by rw [hn]; rfl)]
  unfold openE
  have hs : settleW D (LB b []) = (D, 0) := rfl
  rw [hs, if_neg (fun h => h rfl)]
  exact close_law D hb []
/-- The log that is opened behind a crash. -/
theorem keeps_law {D : DiskS} {L : WalS} {P : List Pc} (h : WInv D L P) (hr : Rising D.files) (ts : List (Nat × Nat)) : Opened (bootD (crashD D ts)) L.b L.es L.safe L.es.length := by
  have hc := calm_boot D ts
  have hr2 := rising_boot hr ts
  by_cases hP : P = []
  · subst hP
    have hl : logF (bootD (crashD D ts)) = [] := crash_none h ts
    obtain ⟨h1, h2⟩ := open_none hc h.lo.1 hl
    have he : L.es = [] := h.es
    have hs : L.safe = 0 := by
      have := h.safe
      rw [he] at this
      exact Nat.le_zero.1 this
    exact ⟨_, _, _, h1, hc, hr2, h2, rfl, rfl, 0, by omega, Nat.zero_le _, rfl⟩
  · obtain ⟨A, z, rfl⟩ := split_last hP
    obtain ⟨M, h1, h2⟩ := crash_log h ts
    have h1' : logF (bootD (crashD D ts)) = A.map Pc.file ++ M := h1
    have hfull : ∀ p ∈ A, p.k = p.w.length ∧ 1024 ≤ p.w.length ∧ p.es ≠ [] := by have := h.full; rwa [List.dropLast_concat] at this
    have hsafe := h.safeAt
    have hhi := h.hi
    rw [h.es] at hhi
    have ho := open_law hc hr2 h.lo.1 h1' h2 h.ch (fun p hp => pcOk_of h hp) hfull hhi
    rw [← h.es] at ho
    rwa [show (esOf A).length + (L.safe - (esOf A).length) = L.safe by omega] at ho
/-- .. when the power ended within a call. -/
theorem keeps_dn {r : DiskS × WalS × Nat} {ms : List EntS} (h : OpDn ms r) (hr : Rising r.1.files) (ts : List (Nat × Nat)) :
    ∃ D2 L2 P2, openW (bootD (crashD r.1 ts)) r.2.1.b = (D2, some L2, 0) ∧ Calm D2 ∧ Rising D2.files ∧ WInv D2 L2 P2 ∧ L2.b = r.2.1.b ∧ L2.safe = L2.es.length ∧ ∃ j, r.2.1.safe ≤ j ∧ j ≤ (r.2.1.es ++ ms).length ∧ L2.es = (r.2.1.es ++ ms).take j := by
  obtain ⟨_, _, L, P, h1, h2, h3, h4⟩ := h
  obtain ⟨D2, L2, P2, g1, g2, g3, g4, g5, g6, j, g7, g8, g9⟩ := keeps_law h1 hr ts
  rw [h2] at g1 g5
  rw [h3] at g7
  refine ⟨D2, L2, P2, g1, g2, g3, g4, g5, g6, j, g7, ?_, ?_⟩
  · rcases h4 with h4 | h4 <;> rw [h4] at g8
    · rw [List.length_append]; omega
    · exact g8
  · rcases h4 with h4 | h4 <;> rw [h4] at g8 g9
    · rw [g9, List.take_append_of_le_length g8]
    · exact g9
-- WHAT ALL THE CALLS KEEP
theorem nameW_kind (n : Nat) : firstN (natsOf (nameW n)) ≠ 0 ∨ (nameW n).size = 0 := by
  by_cases h : n < 1 ∨ 1152921504606846976 ≤ n
  · right
    unfold nameW nameB
    rw [if_pos h]
    rfl
  · left
    exact isW_name (by omega)
/-- One of the disk's calls, on a log's file. -/
inductive StepW : DiskS → DiskS → Prop
  | remove (D : DiskS) (n : ByteArray) : StepW D (removeD D n).1
  | sync (D : DiskS) (n : ByteArray) : StepW D (syncD D n).1
  | cut (D : DiskS) (n : ByteArray) (k : Nat) : StepW D (cutD D n k).1
  | append (D : DiskS) (n : ByteArray) (b : List Nat) (h : firstN (natsOf n) ≠ 0 ∨ n.size = 0) : StepW D (appendD D n b).1
/-- At most so many of them. -/
inductive Reach : Nat → DiskS → DiskS → Prop
  | refl (n : Nat) (D : DiskS) : Reach n D D
  | step {n : Nat} {D D1 D2 : DiskS} (h : StepW D D1) (g : Reach n D1 D2) : Reach (n + 1) D D2
theorem Reach.mono {n m : Nat} {D D' : DiskS} (h : Reach n D D') (hm : n ≤ m) : Reach m D D' := by
  induction h generalizing m with
  | refl => exact .refl _ _
  | step h _ ih =>
    obtain ⟨k, rfl⟩ : ∃ k, m = k + 1 := ⟨m - 1, by omega⟩
    exact .step h (ih (by omega))
theorem Reach.trans {n m : Nat} {D D1 D2 : DiskS} (h : Reach n D D1) (g : Reach m D1 D2) : Reach (n + m) D D2 := by
  induction h with
  | refl => exact g.mono (by omega)
  | @step k _ _ _ h _ ih =>
    rw [show k + 1 + m = k + m + 1 by omega]
    exact .step h (ih g)
theorem Reach.one {D D1 : DiskS} (h : StepW D D1) : Reach 1 D D1 := .step h (.refl _ _)
theorem reach_pop (D : DiskS) (L : WalS) : Reach 1 D (popW D L).1 := by
  unfold popW
  split
  · exact .refl _ _
  · split
    · exact .one (.remove _ _)
    · exact .one (.remove _ _)
theorem reach_reset (base : Nat) : ∀ (n : Nat) (D : DiskS) (L : WalS), Reach n D (resetF base n D L).1
  | 0, D, L => .refl _ _
  | n + 1, D, L => by
    unfold resetF
    split
    · exact .refl _ _
    · split
      · exact (reach_pop D L).mono (by omega)
      · have := (reach_pop D L).trans (reach_reset base n (popW D L).1 (popW D L).2.1)
        rwa [Nat.add_comm] at this
theorem reach_resetW (D : DiskS) (L : WalS) (base : Nat) : Reach L.fs.length D (resetW D L base).1 := by
  unfold resetW
  split
  · exact .refl _ _
  · exact reach_reset _ _ _ _
theorem reach_sync (D : DiskS) (L : WalS) : Reach 1 D (syncW D L).1 := by
  unfold syncW
  split
  · exact .refl _ _
  · split
    · exact .refl _ _
    · split
      · exact .one (.sync _ _)
      · exact .one (.sync _ _)
theorem reach_append (D : DiskS) (L : WalS) (ms : List EntS) : Reach 2 D (appendW D L ms).1 := by
  have hnew : Reach 2 D (newW D L ms).1 := by
    unfold newW
    split
    · exact (reach_sync D L).mono (by omega)
    · split
      · exact (reach_sync D L).trans (.one (.append _ _ _ (nameW_kind _)))
      · exact (reach_sync D L).trans (.one (.append _ _ _ (nameW_kind _)))
  unfold appendW
  split
  · exact .refl _ _
  · split
    · exact .refl _ _
    · split
      · exact .refl _ _
      · split
        · exact hnew
        · split
          · unfold addW
            split
            · exact (Reach.one (.append _ _ _ (nameW_kind _))).mono (by omega)
            · exact (Reach.one (.append _ _ _ (nameW_kind _))).mono (by omega)
          · exact hnew
theorem reach_cutF (frm : Nat) : ∀ (n : Nat) (D : DiskS) (L : WalS), Reach n D (cutF frm n D L).1
  | 0, D, L => .refl _ _
  | n + 1, D, L => by
    unfold cutF
    split
    · exact .refl _ _
    · split
      · exact .refl _ _
      · split
        · exact (reach_pop D L).mono (by omega)
        · have := (reach_pop D L).trans (reach_cutF frm n (popW D L).1 (popW D L).2.1)
          rwa [Nat.add_comm] at this
theorem reach_cutL (D : DiskS) (L : WalS) (frm : Nat) : Reach 1 D (cutL D L frm).1 := by
  unfold cutL
  split
  · exact .refl _ _
  · simp only
    split
    · exact .one (.cut _ _ _)
    · exact .one (.cut _ _ _)
theorem reach_cut (D : DiskS) (L : WalS) (frm : Nat) : Reach (L.fs.length + 1) D (cutW D L frm).1 := by
  unfold cutW
  split
  · exact .refl _ _
  · split
    · exact (reach_cutF frm _ D L).mono (by omega)
    · split
      · exact (reach_cutF frm _ D L).mono (by omega)
      · exact (reach_cutF frm _ D L).trans (reach_cutL _ _ _)
theorem reach_dropF (upto : Nat) : ∀ (n : Nat) (D : DiskS) (L : WalS), Reach n D (dropF upto n D L).1
  | 0, D, L => .refl _ _
  | n + 1, D, L => by
    unfold dropF
    split
    · split
      · split
        · exact (Reach.one (.remove _ _)).mono (by omega)
        · exact .step (.remove _ _) (reach_dropF upto n _ _)
      · exact .refl _ _
    · exact .refl _ _
theorem reach_drop (D : DiskS) (L : WalS) (upto : Nat) : Reach L.fs.length D (dropW D L upto).1 := by
  unfold dropW
  split
  · exact .refl _ _
  · exact reach_dropF _ _ _ _
end Go.Proofs.YtjdglpcnkiioeaaGreat

/- An append to a calm disk leaves a calm one; plain. -/
namespace Go.Proofs.YtjdglpcnkiioeaaGreat
open Go.RowKit Go.Maps Go.Proofs.Own

theorem appendD_calm {D : DiskS} (h : Calm D) (n : ByteArray) (b : List Nat) : Calm (appendD D n b).1 := by
  unfold appendD
  split
  · exact h
  · unfold Calm stepD
    rw [if_neg (by show ¬ (appD D n b).armed = 0; rw [show (appD D n b).armed = D.armed from rfl, h.2]; decide), if_neg (by rw [show (appD D n b).armed = D.armed from rfl, h.2]; decide)]
    exact h
end Go.Proofs.YtjdglpcnkiioeaaGreat

/- What any of a log's calls keep of its disk: the ranges, the quiet, that all files are a log's; a call by its kind; plain. -/
namespace Go.Proofs.YtjdglpcnkiioeaaGreat
open Go.RowKit Go.Maps Go.Proofs.Own Go.Shelf

/-- All files of a disk are a log's. -/
def AllW (D : DiskS) : Prop := ∀ f ∈ D.files, isW f = true
theorem AllW.logF {D : DiskS} (h : AllW D) : logF D = D.files := List.filter_eq_self.2 h
theorem AllW.put {D D' : DiskS} (h : AllW D) {f : FileS} (hf : isW f = true) (he : D'.files = putFile f D.files) : AllW D' := by
  intro g hg
  rw [he] at hg
  rcases mem_put.1 hg with rfl | ⟨h1, _⟩
  · exact hf
  · exact h g h1
theorem AllW.del {D D' : DiskS} (h : AllW D) {n : ByteArray} (he : D'.files = delFile n D.files) : AllW D' := by
  intro g hg
  rw [he] at hg
  exact h g (mem_del.1 hg).1
theorem AllW.same {D D' : DiskS} (h : AllW D) (he : D'.files = D.files) : AllW D' := by
  intro g hg
  rw [he] at hg
  exact h g hg
theorem AllW.step {D D' : DiskS} (h : AllW D) (hs : StepW D D') : AllW D' := by
  cases hs with
  | remove n =>
    unfold removeD
    split
    · split
      · exact h
      · split
        · exact h.same (stepD_files D)
        · exact h.del rfl
    · exact h
  | sync n =>
    unfold syncD
    split
    · rename_i f hf
      split
      · exact h
      · split
        · exact h.same (stepD_files D)
        · exact h.put (f := { f with kept := f.all.length }) (h f (find_name hf).2) rfl
    · exact h
  | cut n k =>
    unfold cutD
    split
    · rename_i f hf
      split
      · exact h
      · split
        · exact h
        · split
          · exact h.same (stepD_files D)
          · exact h.put (f := ⟨f.name, f.all.take (k : Int).toNat, min f.kept (k : Int).toNat⟩) (h f (find_name hf).2) rfl
    · exact h
  | append n b hn =>
    unfold appendD
    by_cases he : appE D n b ≠ 0
    · rw [if_pos he]
      exact h
    · rw [if_neg he]
      refine h.put (f := { getF D n with all := (getF D n).all ++ b }) ?_ (stepD_files (appD D n b))
      unfold isW
      show decide (firstN (natsOf (getF D n).name) ≠ 0) = true
      rw [getF_name]
      rcases hn with hn | hn
      · exact decide_eq_true hn
      · exfalso
        apply he
        unfold appE
        split
        · decide
        · rw [if_pos (by omega)]
          decide
theorem Calm.stepW {D D' : DiskS} (h : Calm D) (hs : StepW D D') : Calm D' := by
  cases hs with
  | remove n =>
    unfold removeD
    split
    · rw [if_neg (by rw [h.1]; decide), if_neg (by rw [h.2]; decide)]
      exact h.step _
    · exact h
  | sync n =>
    unfold syncD
    split
    · rw [if_neg (by rw [h.1]; decide), if_neg (by rw [h.2]; decide)]
      exact h.step _
    · exact h
  | cut n k =>
    unfold cutD
    split
    · split
      · exact h
      · split
        · exact h
        · rw [if_neg (by rw [h.2]; decide)]
          exact h.step _
    · exact h
  | append n b _ => exact appendD_calm h n b
theorem DGood.stepW {D D' : DiskS} (h : DGood D) (hs : StepW D D') (hn : D.steps + 1 ≤ 1000000000) : DGood D' ∧ D'.steps ≤ D.steps + 1 := by
  cases hs with
  | remove n => exact h.remove n hn
  | sync n => exact h.sync n hn
  | cut n k => exact h.cut n k hn
  | append n b _ => exact h.append n b hn
theorem Reach.allW {n : Nat} {D D' : DiskS} (hr : Reach n D D') (h : AllW D) : AllW D' := by
  induction hr with
  | refl => exact h
  | step hs _ ih => exact ih (h.step hs)
theorem Reach.calm {n : Nat} {D D' : DiskS} (hr : Reach n D D') (h : Calm D) : Calm D' := by
  induction hr with
  | refl => exact h
  | step hs _ ih => exact ih (h.stepW hs)
theorem Reach.good {n : Nat} {D D' : DiskS} (hr : Reach n D D') (h : DGood D) (hn : D.steps + n ≤ 1000000000) : DGood D' ∧ D'.steps ≤ D.steps + n := by
  induction hr with
  | refl => exact ⟨h, by omega⟩
  | step hs _ ih =>
    obtain ⟨h1, h2⟩ := h.stepW hs (by omega)
    obtain ⟨h3, h4⟩ := ih h1 (by omega)
    exact ⟨h3, by omega⟩
theorem StepW.rising {D D' : DiskS} (hs : StepW D D') (h : Rising D.files) : Rising D'.files := by
  cases hs with
  | remove n =>
    unfold removeD
    split
    · split
      · exact h
      · split
        · rw [show (stepD D, 50).1.files = D.files from stepD_files D]; exact h
        · exact h.del n
    · exact h
  | sync n =>
    unfold syncD
    split
    · rename_i f _
      split
      · exact h
      · split
        · rw [show (stepD D, 50).1.files = D.files from stepD_files D]; exact h
        · exact h.put { f with kept := f.all.length }
    · exact h
  | cut n k =>
    unfold cutD
    split
    · rename_i f _
      split
      · exact h
      · split
        · exact h
        · split
          · rw [show (stepD D, 50).1.files = D.files from stepD_files D]; exact h
          · exact h.put ⟨f.name, f.all.take (k : Int).toNat, min f.kept (k : Int).toNat⟩
    · exact h
  | append n b _ =>
    unfold appendD
    split
    · exact h
    · rw [show (stepD (appD D n b), stepE D).1.files = (appD D n b).files from stepD_files _]
      exact h.put { getF D n with all := (getF D n).all ++ b }
theorem Reach.rising {n : Nat} {D D' : DiskS} (hr : Reach n D D') (h : Rising D.files) : Rising D'.files := by
  induction hr with
  | refl => exact h
  | step hs _ ih => exact ih (hs.rising h)
-- ANY CALL
/-- A call by its kind: 1 Sync, 2 Cut, 3 Drop, 4 Reset, else Append. -/
def callW (k : Int) (at_ : Nat) (ms : List EntS) (D : DiskS) (L : WalS) : DiskS × WalS × Nat :=
  if k = 1 then syncW D L else if k = 2 then cutW D L at_ else if k = 3 then dropW D L at_ else if k = 4 then resetW D L at_ else appendW D L ms
/-- What is lost with the power. -/
def lostW (k : Int) (ms : List EntS) : List EntS := if k < 1 ∨ 4 < k then ms else []
theorem call_law {D : DiskS} {L : WalS} {P : List Pc} (h : WInv D L P) (hd : D.down = false) (hr : Rising D.files) (k : Int) (at_ : Nat) (ms : List EntS) :
    OpUp (callW k at_ ms D L) ∨ OpDn (lostW k ms) (callW k at_ ms D L) := by
  unfold callW lostW
  by_cases h1 : k = 1
  · rw [if_pos h1, if_neg (by omega)]
    exact sync_up h hd hr
  · rw [if_neg h1]
    by_cases h2 : k = 2
    · rw [if_pos h2, if_neg (by omega)]
      exact cut_law h hd hr at_
    · rw [if_neg h2]
      by_cases h3 : k = 3
      · rw [if_pos h3, if_neg (by omega)]
        exact drop_law h hd hr at_
      · rw [if_neg h3]
        by_cases h4 : k = 4
        · rw [if_pos h4, if_neg (by omega)]
          exact reset_up h hd hr at_
        · rw [if_neg h4, if_pos (by omega)]
          exact append_law h hd hr ms
theorem reach_call (D : DiskS) (L : WalS) (k : Int) (at_ : Nat) (ms : List EntS) : Reach (L.fs.length + 2) D (callW k at_ ms D L).1 := by
  unfold callW
  split
  · exact (reach_sync D L).mono (by omega)
  · split
    · exact (reach_cut D L at_).mono (by omega)
    · split
      · exact (reach_drop D L at_).mono (by omega)
      · split
        · exact (reach_resetW D L at_).mono (by omega)
        · exact (reach_append D L ms).mono (by omega)
/-- A log has no more files than its disk. -/
theorem WInv.few {D : DiskS} {L : WalS} {P : List Pc} (h : WInv D L P) (hg : DGood D) : L.fs.length ≤ 128 := by
  have h1 : L.fs.length = (logF D).length := by rw [h.fs, h.fil, List.length_map, List.length_map]
  have h2 : (logF D).length ≤ D.files.length := List.length_filter_le ..
  have h3 := hg.few
  omega
/-- The files of a log's disk are the log. -/
theorem files_law {D : DiskS} {L : WalS} {P : List Pc} (h : WInv D L P) (ha : AllW D) : D.files = P.map Pc.file ∧ ∀ A p B, P = A ++ p :: B →
    segR p.w = ⟨p.f, p.es, p.w.length⟩ ∧ p.f = L.b + 1 + (esOf A).length ∧ (B ≠ [] → 1024 ≤ p.w.length) := by
  refine ⟨by rw [← ha.logF]; exact h.fil, fun A p B e => ?_⟩
  subst e
  have hp : p ∈ A ++ p :: B := List.mem_append_right _ (List.mem_cons_self ..)
  have hok := pcOk_of h hp
  have hr := hok.reads (R := []) (by decide)
  rw [List.append_nil] at hr
  refine ⟨hr, (Chain.app.1 h.ch).2.1, fun hB => (h.full p ?_).2.1⟩
  rw [List.dropLast_append_of_ne_nil (by simp)]
  refine List.mem_append_right _ ?_
  match B, hB with
  | q :: B, _ => exact List.mem_cons_self ..
end Go.Proofs.YtjdglpcnkiioeaaGreat

/- What a log's numbers are within, whatever the files; plain. -/
namespace Go.Proofs.YtjdglpcnkiioeaaGreat
open Go.RowKit Go.Maps Go.Proofs.Own Go.Shelf

/-- How many entries a row of files tells. -/
def manyW (fs : List WF) : Nat := (fs.map (·.m)).sum
theorem manyW_app (a b : List WF) : manyW (a ++ b) = manyW a + manyW b := by unfold manyW; rw [List.map_append, List.sum_append]
theorem manyW_one (f : WF) : manyW [f] = f.m := by simp [manyW]
/-- The numbers of a log are within what a machine's words hold. -/
structure LOk (L : WalS) : Prop where
  nm : ∀ f ∈ L.fs, 1 ≤ f.f ∧ f.f < 1152921504606846976
  sum : manyW L.fs ≤ L.es.length
  few : L.es.length ≤ 2147483648
  b : L.b ≤ 1152921504606846976
  safe : L.safe ≤ L.es.length
  size : ∀ f ∈ L.fs, f.s ≤ 2097152
theorem LOk.m {L : WalS} (h : LOk L) {f : WF} (hf : f ∈ L.fs) : f.m ≤ L.es.length := by
  obtain ⟨A, B, e⟩ := List.append_of_mem hf
  have := h.sum
  rw [e, show A ++ f :: B = A ++ ([f] ++ B) by simp, manyW_app, manyW_app, manyW_one] at this
  omega
theorem LOk.last {L : WalS} (h : LOk L) : L.last ≤ 1152921506754330624 := by
  have := h.few
  have := h.b
  unfold WalS.last
  omega
theorem last_split {fs : List WF} {f : WF} (h : fs.getLast? = some f) : fs = fs.dropLast ++ [f] := by
  rw [List.getLast?_eq_some_iff] at h
  obtain ⟨ys, rfl⟩ := h
  rw [List.dropLast_concat]
theorem LOk.pop {D : DiskS} {L : WalS} (h : LOk L) : LOk (popW D L).2.1 := by
  unfold popW
  cases e : L.fs.getLast? with
  | none => exact h
  | some f =>
    simp only
    split
    · exact h
    · have hs := last_split e
      have h1 := h.sum
      have h2 := h.few
      rw [hs, manyW_app, manyW_one] at h1
      refine ⟨fun g hg => h.nm g (List.dropLast_subset _ hg), ?_, ?_, h.b, ?_, fun g hg => h.size g (List.dropLast_subset _ hg)⟩
      · simp only [List.length_take]; omega
      · simp only [List.length_take]; omega
      · have := h.safe
        simp only [List.length_take]; omega
end Go.Proofs.YtjdglpcnkiioeaaGreat

/- Contracts of segment: Head, Line; no conditions but the ranges. -/
namespace Go.Proofs.YtjdglpcnkiioeaaGreat
open Go.RowKit Go.Maps Go.Proofs.Own

theorem gsnd_ok (e : EntS) : gSnd e.t e.k e.d.length = decide e.ok := by
  rw [Bool.eq_iff_iff, decide_eq_true_iff]
  unfold gSnd EntS.ok
  simp only [Bool.and_eq_true, decide_eq_true_eq]
  constructor
  · rintro ⟨h1, h2, h3, h4, h5⟩
    exact ⟨h1, h2, h3, h4, by omega⟩
  · rintro ⟨h1, h2, h3, h4, h5⟩
    exact ⟨h1, h2, h3, h4, by omega⟩

set_option maxHeartbeats 1600000 in
set_option maxRecDepth 20000 in
theorem ghead_any (n : Nat) (w : World) (hn : (n : Int) < 18446744073709551616) :
    Calls Tryz.prog 114 #[.int .u64 n] w fun e w' => ∃ v', e = .returned v' ∧ Owns w' w.heap.size 5 .u8 v' (ints (headW n)) ∧ Below w.heap.size w w' := by
  have HT : Hid (∀ x ∈ [n], (x : Int) < 18446744073709551616) := Lib.hid (by
    intro x hx
    obtain rfl := List.mem_singleton.1 hx
    exact hn)
  have HNW : Hid (numsW [n] = numW n) := Lib.hid (by simp [numsW])
  have HL : Hid ((numW n).length ≤ 9) := Lib.hid (numW_len hn)
  have HLT : Hid (∀ c ∈ numW n, c < 256) := Lib.hid (numW_lt hn)
  clear hn
  go_enter Tryz.func114, Tryz.ntmps114
  go_wp2_with fail
  have W1 : Hid (∀ o : Obj, WrIs ((w.alloc (.cells #[.slice none 0 0] 246)).alloc o) w.heap.size (.slice none 0 0) []) := Lib.hid fun o =>
    (WrIs.new w).below ((Below.refl _ _).alloc (Nat.le_refl _) o)
  have X2 : Hid (∀ x : Int, Reads ((w.alloc (.cells #[.slice none 0 0] 246)).alloc (.cells #[.int .u64 x] 22)) .u64 (.slice (some ⟨w.heap.size + 1, 0, none⟩) 1 1) [x]) := Lib.hid fun x => by
    have h := Reads.one (w.alloc (.cells #[.slice none 0 0] 246)) .u64 x 22
    simpa using h
  refine (wnum_any w.heap.size _ _ [] [n] _ (W1.out _) (X2.out _) HT.out (by
    intro b hb
    simp only [Value.ownBlock] at hb
    obtain rfl := Option.some.inj hb
    exact ⟨by omega, by simp [Value.ownBlock]⟩) (by simp)).mono ?_
  rintro e w2 ⟨rfl, v2, hw2, hg2⟩
  have B2 : Hid (Below w.heap.size w w2) := Lib.hid (by
    have h := hg2.below (W1.out _)
    exact ((Below.refl _ _).alloc (Nat.le_refl _) _).alloc (by simp) _ |>.trans h)
  have W2 : Hid (WrIs w2 w.heap.size v2 (numW n)) := Lib.hid (by rw [← HNW.out]; simpa using hw2)
  clear hw2 hg2 W1 X2
  generalize hL : numW n = L at *
  go_wp2_with fail
  refine (wbytes_any _ v2 L w2 W2.out (by have := HL.out; omega) HLT.out).mono ?_
  rintro e w5 ⟨v5, rfl, hB5, hb5⟩
  have HB5 := Lib.hid hB5
  have B5 : Hid (Below w.heap.size w w5) := Lib.hid (B2.out.trans (hb5.mono B2.out.size))
  clear hB5 hb5
  go_wp2_with fail
  refine (wrap_own 1 v5 L w5 HB5.out (by decide) (by decide) (by have := HL.out; omega)).mono ?_
  rintro e w6 ⟨v6, rfl, hB6, hb6, ho6⟩
  have HO6 : Hid (Owns w6 w.heap.size 5 .u8 v6 (ints (headW n))) := Lib.hid (by
    have h := ho6.lower fun g hg => Nat.le_trans B5.out.size (ho6.lt g hg).1
    unfold headW
    rw [hL]
    exact h)
  have B6 : Hid (Below w.heap.size w w6) := Lib.hid (B5.out.trans (hb6.mono B5.out.size))
  clear hB6 hb6 ho6
  go_wp2_with fail
  go_ret
  exact ⟨v6, rfl, HO6.out, B6.out⟩

theorem lineB_small {i : Nat} {e : EntS} (hi : (i : Int) < 18446744073709551616) (h : e.ok) : (numsW [i, e.t.toNat, e.k.toNat]).length ≤ 27 ∧ (∀ c ∈ numsW [i, e.t.toNat, e.k.toNat], c < 256) ∧ (numW e.d.length).length ≤ 9 ∧ (∀ c ∈ numW e.d.length, c < 256) := by
  obtain ⟨h1, h2, h3, h4, h5⟩ := h
  have ht : ∀ x ∈ [i, e.t.toNat, e.k.toNat], (x : Int) < 18446744073709551616 := by
    intro x hx
    simp only [List.mem_cons, List.not_mem_nil, or_false] at hx
    rcases hx with rfl | rfl | rfl <;> omega
  exact ⟨by have := numsW_len _ ht; simpa using this, numsW_lt _ ht, numW_len (by omega), numW_lt (by omega)⟩

set_option maxHeartbeats 1600000 in
theorem gline_no (i : Int) (e : EntS) (dv : Value) (w : World) (hB : Bytes w dv e.d) (h : ¬ e.ok) :
    Calls Tryz.prog 159 #[.int .u64 i, .agg #[.int .u64 e.t, .int .i64 e.k, dv]] w fun E w' => E = .returned (.tuple #[.slice none 0 0, .int .i64 2]) ∧ Below w.heap.size w w' := by
  have HS : Hid (gSnd e.t e.k e.d.length = false) := Lib.hid (by rw [gsnd_ok]; exact decide_eq_false h)
  have HB := Lib.hid hB
  obtain ⟨t, k, d⟩ := e
  obtain ⟨a, c, rfl, _⟩ := hB.shape
  clear hB h
  go_enter Tryz.func159, Tryz.ntmps159
  go_wp2_with fail
  refine (gsound_any t k _ d _ (HB.out.below ((Below.refl _ _).alloc (Nat.le_refl _) _))).mono ?_
  rintro E w1 ⟨rfl, hb1⟩
  have B1 : Hid (Below w.heap.size w w1) := Lib.hid (((Below.refl _ _).alloc (Nat.le_refl _) _).trans (hb1.mono (by simp)))
  rw [HS.out]
  clear hb1
  go_wp2_with fail
  go_ret2
  exact ⟨rfl, B1.out⟩

set_option maxHeartbeats 1600000 in
set_option maxRecDepth 20000 in
theorem gline_yes (i : Nat) (e : EntS) (dv : Value) (w : World) (hB : Bytes w dv e.d) (h : e.ok) (hi : (i : Int) < 18446744073709551616) :
    Calls Tryz.prog 159 #[.int .u64 i, .agg #[.int .u64 e.t, .int .i64 e.k, dv]] w fun E w' => ∃ v', E = .returned (.tuple #[v', .int .i64 0]) ∧ Bytes w' v' (lineW i e) ∧ Below w.heap.size w w' := by
  have HS : Hid (gSnd e.t e.k e.d.length = true) := Lib.hid (by rw [gsnd_ok]; exact decide_eq_true h)
  have HB := Lib.hid hB
  have HLB := Lib.hid (lineB_small hi h)
  obtain ⟨t, k, d⟩ := e
  obtain ⟨h1, h2, h3, h4, h5⟩ := h
  simp only at h1 h2 h3 h4 h5 HLB HS HB hB ⊢
  have HD5 := Lib.hid h5
  have HTK : Hid (t = (t.toNat : Int) ∧ k = (k.toNat : Int)) := Lib.hid ⟨by omega, by omega⟩
  have HT3 : Hid (∀ x ∈ [i, t.toNat, k.toNat], (x : Int) < 18446744073709551616) := Lib.hid (by
    intro x hx
    simp only [List.mem_cons, List.not_mem_nil, or_false] at hx
    rcases hx with rfl | rfl | rfl <;> omega)
  have HDS : Hid ((convert 36 9 dv).run Tryz.prog w = .ok (.string (strN d)) w) := Lib.hid (hB.str Tryz.underlying36 Tryz.underlying5 Tryz.underlying9)
  have HK : IntKind.u64.wrap k = k := by rw [wrap_u64]; omega
  obtain ⟨a, c, rfl, _⟩ := hB.shape
  clear hB h5
  go_enter Tryz.func159, Tryz.ntmps159
  go_wp2_with fail
  have BE : Hid (Below w.heap.size w (w.alloc (.cells #[.int .u64 t, .int .i64 k, .slice a d.length c] 38))) := Lib.hid ((Below.refl _ _).alloc (Nat.le_refl _) _)
  have CE : Hid ((w.alloc (.cells #[.int .u64 t, .int .i64 k, .slice a d.length c] 38)).cell? ⟨w.heap.size, 0, none⟩ = some (.int .u64 t) ∧ (w.alloc (.cells #[.int .u64 t, .int .i64 k, .slice a d.length c] 38)).cell? ⟨w.heap.size, 1, none⟩ = some (.int .i64 k) ∧ (w.alloc (.cells #[.int .u64 t, .int .i64 k, .slice a d.length c] 38)).cell? ⟨w.heap.size, 2, none⟩ = some (.slice a d.length c)) := Lib.hid ⟨by go_cell, by go_cell, by go_cell⟩
  have LE : w.heap.size < (w.alloc (.cells #[.int .u64 t, .int .i64 k, .slice a d.length c] 38)).heap.size := by simp
  generalize World.alloc w _ = w1 at *
  have HB1 := Lib.hid (HB.out.below BE.out)
  refine (gsound_any t k _ d w1 HB1.out).mono ?_
  rintro E w2 ⟨rfl, hb2⟩
  have B2 : Hid (Below w.heap.size w w2) := Lib.hid (BE.out.trans (hb2.mono (Nat.le_of_lt LE)))
  have e0 := Below.at hb2 CE.out.1 LE
  have e1 := Below.at hb2 CE.out.2.1 LE
  have e2 := Below.at hb2 CE.out.2.2 LE
  have LE2 := Nat.lt_of_lt_of_le LE hb2.size
  have HB2 := Lib.hid (HB1.out.below hb2)
  rw [HS.out]
  clear hb2 CE
  go_wp2_with fail
  have W3 : Hid (∀ o : Obj, WrIs ((w2.alloc (.cells #[.slice none 0 0] 246)).alloc o) w2.heap.size (.slice none 0 0) []) := Lib.hid fun o =>
    (WrIs.new w2).below ((Below.refl _ _).alloc (Nat.le_refl _) o)
  have X3 : Hid (Reads ((w2.alloc (.cells #[.slice none 0 0] 246)).alloc (.cells #[.int .u64 i, .int .u64 t, .int .u64 k] 22)) .u64 (.slice (some ⟨w2.heap.size + 1, 0, none⟩) 3 3) (ints [i, t.toNat, k.toNat])) := Lib.hid (by
    have h := Reads.three (w2.alloc (.cells #[.slice none 0 0] 246)) .u64 i t k 22
    have hi3 : ints [i, t.toNat, k.toNat] = [(i : Int), t, k] := by
      unfold ints
      simp only [List.map_cons, List.map_nil]
      rw [← HTK.out.1, ← HTK.out.2]
    rw [hi3]
    simpa using h)
  refine (wnum_any w2.heap.size _ _ [] [i, t.toNat, k.toNat] _ (W3.out _) X3.out HT3.out (by
    intro b hb
    simp only [Value.ownBlock] at hb
    obtain rfl := Option.some.inj hb
    exact ⟨by omega, by simp [Value.ownBlock]⟩) (by simp)).mono ?_
  rintro E w3 ⟨rfl, v3, hw3, hg3⟩
  have B23 : Hid (Below w2.heap.size w2 w3) := Lib.hid (by
    have h := hg3.below (W3.out _)
    exact ((Below.refl _ _).alloc (Nat.le_refl _) _).alloc (by simp) _ |>.trans h)
  have HW3 : Hid (WrIs w3 w2.heap.size v3 (numsW [i, t.toNat, k.toNat])) := Lib.hid (by simpa using hw3)
  have c2 := Below.at B23.out e2 LE2
  have HB3 := Lib.hid (HB2.out.below B23.out)
  have hds : (convert 36 9 (.slice a d.length c)).run Tryz.prog w3 = .ok (.string (strN d)) w3 := HB3.out.str Tryz.underlying36 Tryz.underlying5 Tryz.underlying9
  clear hw3 hg3 W3 X3 HDS HK e0 e1 e2
  go_wp2_with fail
  refine (wtext_any w2.heap.size v3 (numsW [i, t.toNat, k.toNat]) (strN d) w3 HW3.out (by rw [size_strN]; have := HLB.out.1; have := HD5.out; omega)).mono ?_
  rintro E w4 ⟨rfl, v4, hw4, hg4⟩
  have HW4 : Hid (WrIs w4 w2.heap.size v4 (lineB i ⟨t, k, d⟩)) := Lib.hid (by
    have h := hw4
    rw [size_strN, natsOf_strN HB.out.lt] at h
    exact h)
  have B24 : Hid (Below w2.heap.size w2 w4) := Lib.hid (B23.out.trans (hg4.below HW3.out))
  have HL4 : Hid ((lineB i ⟨t, k, d⟩).length ≤ 10000 ∧ ∀ c ∈ lineB i ⟨t, k, d⟩, c < 256) := Lib.hid (by
    obtain ⟨q1, q2, q3, q4⟩ := HLB.out
    have q5 := HD5.out
    refine ⟨by unfold lineB; simp only [List.length_append]; omega, fun c hc => ?_⟩
    unfold lineB at hc
    rcases List.mem_append.1 hc with hc | hc
    · exact q2 c hc
    · rcases List.mem_append.1 hc with hc | hc
      · exact q4 c hc
      · exact HB.out.lt c hc)
  clear hw4 hg4 hds c2
  have HLW : Hid (lineW i ⟨t, k, d⟩ = frP 2 (lineB i ⟨t, k, d⟩)) := Lib.hid rfl
  generalize lineB i ⟨t, k, d⟩ = R at *
  go_wp2_with fail
  refine (wbytes_any _ v4 R w4 HW4.out (by have := HL4.out.1; omega) HL4.out.2).mono ?_
  rintro E w5 ⟨v5, rfl, hB5, hb5⟩
  have HB5 := Lib.hid hB5
  have B5 : Hid (Below w.heap.size w w5) := Lib.hid (B2.out.trans ((B24.out.trans (hb5.mono B24.out.size)).mono B2.out.size))
  clear hB5 hb5
  go_wp2_with fail
  refine (wrap_any 2 v5 R w5 HB5.out (by decide) (by decide) (by have := HL4.out.1; omega)).mono ?_
  rintro E w6 ⟨v6, rfl, hB6, hb6, ho6⟩
  have HB6 := Lib.hid hB6
  have B6 : Hid (Below w.heap.size w w6) := Lib.hid (B5.out.trans (hb6.mono B5.out.size))
  clear hB6 hb6 ho6
  go_wp2_with fail
  go_ret2
  rw [HLW.out]
  exact ⟨v6, rfl, HB6.out, B6.out⟩
end Go.Proofs.YtjdglpcnkiioeaaGreat

/- Contracts of segment: head, line; no conditions but the ranges. -/
namespace Go.Proofs.YtjdglpcnkiioeaaGreat
open Go.RowKit Go.Maps Go.Proofs.Own

set_option maxHeartbeats 1600000 in
set_option maxRecDepth 20000 in
theorem ghd_any (kd : Nat) (v : Value) (l : List Nat) (rb : Nat) (w : World) (hB : Bytes w v l) (hrb : l = [] ∨ v.ownBlock = some rb) (hlt : rb < w.heap.size) :
    Calls Tryz.prog 75 #[.int .u8 kd, v] w fun e w' => e = .returned (.int .u64 ((if kd = 1 ∧ endE (numL H60 l) (numB H60 l) = 0 then numV H60 l else 0 : Nat))) ∧ Below w.heap.size w w' := by
  have HB := Lib.hid hB
  have HRB := Lib.hid hrb
  have HLT := Lib.hid hlt
  obtain ⟨a, c, rfl, _⟩ := hB.shape
  obtain ⟨q, hq⟩ : ∃ q, endE (numL H60 l) (numB H60 l) = q := ⟨_, rfl⟩
  rw [hq]
  have HQ := Lib.hid hq
  clear hB hrb hlt hq
  by_cases h1 : kd = 1
  · have b1 : ((kd : Int) != 1) = false := by rw [h1]; rfl
    by_cases h2 : q = 0
    · rw [if_pos ⟨h1, h2⟩]
      have b2 : ((q : Int) != 0) = false := by rw [h2]; rfl
      clear h1 h2
      go_enter Tryz.func75, Tryz.ntmps75
      go_wp2_with fail
      refine (qopen_any _ _ _ HB.out HRB.out (Nat.ne_of_lt HLT.out)).mono ?_
      rintro e w1 ⟨rfl, hr1, hb1⟩
      have R1 := Lib.hid hr1
      have B1 := Lib.hid hb1
      clear hr1 hb1
      go_wp2_with fail
      refine (qnum_any _ _ _ _ _ R1.out (by decide) (by decide)).mono ?_
      rintro e w2 ⟨rfl, hr2, hk2⟩
      have R2 : Hid (RdrIs w2 w.heap.size rb (numL H60 l) (numB H60 l)) := Lib.hid (by have h := hr2; rw [Bool.false_or] at h; exact h)
      have B2 : Hid (Below w.heap.size w w2) := Lib.hid (B1.out.trans (hk2.below B1.out.size fun k e => by omega))
      obtain ⟨n, hn⟩ : ∃ n, numV (Int.toNat 1152921504606846976) l = n := ⟨_, rfl⟩
      have HN : Hid (numV H60 l = n) := Lib.hid hn
      rw [hn]
      clear hr2 hk2 hn
      go_wp2_with fail
      refine (qend_any _ _ _ _ R2.out).mono ?_
      rintro e w3 ⟨rfl, rfl⟩
      rw [HQ.out]
      go_wp2_with fail
      go_ret
      rw [HN.out]
      exact ⟨rfl, B2.out⟩
    · rw [if_neg fun h => h2 h.2]
      have b2 : ((q : Int) != 0) = true := by simp; omega
      clear h1 h2
      go_enter Tryz.func75, Tryz.ntmps75
      go_wp2_with fail
      refine (qopen_any _ _ _ HB.out HRB.out (Nat.ne_of_lt HLT.out)).mono ?_
      rintro e w1 ⟨rfl, hr1, hb1⟩
      have R1 := Lib.hid hr1
      have B1 := Lib.hid hb1
      clear hr1 hb1
      go_wp2_with fail
      refine (qnum_any _ _ _ _ _ R1.out (by decide) (by decide)).mono ?_
      rintro e w2 ⟨rfl, hr2, hk2⟩
      have R2 : Hid (RdrIs w2 w.heap.size rb (numL H60 l) (numB H60 l)) := Lib.hid (by have h := hr2; rw [Bool.false_or] at h; exact h)
      have B2 : Hid (Below w.heap.size w w2) := Lib.hid (B1.out.trans (hk2.below B1.out.size fun k e => by omega))
      generalize numV (Int.toNat 1152921504606846976) l = n at *
      clear hr2 hk2
      go_wp2_with fail
      refine (qend_any _ _ _ _ R2.out).mono ?_
      rintro e w3 ⟨rfl, rfl⟩
      rw [HQ.out]
      go_wp2_with fail
      go_ret
      exact ⟨rfl, B2.out⟩
  · rw [if_neg fun h => h1 h.1]
    have b1 : ((kd : Int) != 1) = true := by simp; omega
    clear h1
    go_enter Tryz.func75, Tryz.ntmps75
    go_wp2_with fail
    refine (qopen_any _ _ _ HB.out HRB.out (Nat.ne_of_lt HLT.out)).mono ?_
    rintro e w1 ⟨rfl, hr1, hb1⟩
    have R1 := Lib.hid hr1
    have B1 := Lib.hid hb1
    clear hr1 hb1
    go_wp2_with fail
    refine (qnum_any _ _ _ _ _ R1.out (by decide) (by decide)).mono ?_
    rintro e w2 ⟨rfl, hr2, hk2⟩
    have B2 : Hid (Below w.heap.size w w2) := Lib.hid (B1.out.trans (hk2.below B1.out.size fun k e => by omega))
    generalize numV (Int.toNat 1152921504606846976) l = n at *
    clear hr2 hk2
    go_wp2_with fail
    go_ret
    exact ⟨rfl, B2.out⟩
end Go.Proofs.YtjdglpcnkiioeaaGreat

/- The contract of segment.line; no conditions but the ranges. -/
namespace Go.Proofs.YtjdglpcnkiioeaaGreat
open Go.RowKit Go.Maps Go.Proofs.Own

def lbR1 (l : List Nat) : List Nat := numL M64 l
def lbR2 (l : List Nat) : List Nat := numL H60 (lbR1 l)
def lbR3 (l : List Nat) : List Nat := numL 3 (lbR2 l)
def lbI (l : List Nat) : Nat := numV M64 l
/-- The entry of a body. -/
def lbX (l : List Nat) : EntS := ⟨numV H60 (lbR1 l), numV 3 (lbR2 l), textV 4096 (lbR3 l)⟩
def lbE (l : List Nat) : Nat := endE (textL 4096 (lbR3 l)) (((numB M64 l || numB H60 (lbR1 l)) || numB 3 (lbR2 l)) || textB 4096 (lbR3 l))
/-- Block b holds an entry. -/
structure EC (W : World) (b : Nat) (t k : Int) (dv : Value) : Prop where
  c0 : W.cell? ⟨b, 0, none⟩ = some (.int .u64 t)
  c1 : W.cell? ⟨b, 1, none⟩ = some (.int .i64 k)
  c2 : W.cell? ⟨b, 2, none⟩ = some dv
  f0 : W.frozen? ⟨b, 0, none⟩ = false
  f1 : W.frozen? ⟨b, 1, none⟩ = false
  f2 : W.frozen? ⟨b, 2, none⟩ = false
theorem EC.lt {W : World} {b : Nat} {t k : Int} {dv : Value} (h : EC W b t k dv) : b < W.heap.size := World.block_lt_of_cell? _ _ h.c0
theorem EC.cells {W : World} {b : Nat} {t k : Int} {dv : Value} (h : EC W b t k dv) : W.cell? ⟨b, 0, none⟩ = some (.int .u64 t) ∧ W.cell? ⟨b, 1, none⟩ = some (.int .i64 k) ∧ W.cell? ⟨b, 2, none⟩ = some dv := ⟨h.c0, h.c1, h.c2⟩
theorem EC.kept {W W' : World} {b : Nat} {t k : Int} {dv : Value} {S : Nat → Prop} (h : EC W b t k dv) (hk : Kept W W' S) (hs : ¬ S b) : EC W' b t k dv :=
  ⟨hk.cell h.c0 hs, hk.cell h.c1 hs, hk.cell h.c2 hs, (hk.frozen (a := ⟨b, 0, none⟩) h.lt hs).trans h.f0, (hk.frozen (a := ⟨b, 1, none⟩) h.lt hs).trans h.f1, (hk.frozen (a := ⟨b, 2, none⟩) h.lt hs).trans h.f2⟩
theorem EC.below {W W' : World} {b : Nat} {t k : Int} {dv : Value} (h : EC W b t k dv) (hb : Below W.heap.size W W') : EC W' b t k dv :=
  h.kept (Kept.of_below hb (S := fun _ => False) fun k h1 h2 => by omega) id
theorem EC.set {W : World} {b : Nat} {t k : Int} {dv : Value} (h : EC W b t k dv) (t' k' : Int) : EC ((W.setCell ⟨b, 0, none⟩ (.int .u64 t')).setCell ⟨b, 1, none⟩ (.int .i64 k')) b t' k' dv := by
  refine ⟨?_, ?_, ?_, by rw [World.frozen?_setCell, World.frozen?_setCell]; exact h.f0, by rw [World.frozen?_setCell, World.frozen?_setCell]; exact h.f1, by rw [World.frozen?_setCell, World.frozen?_setCell]; exact h.f2⟩
  · rw [World.cell?_setCell_other _ _ _ _ (by simp)]
    exact World.cell?_setCell_same _ _ _ h.c0
  · exact World.cell?_setCell_same _ _ _ (by rw [World.cell?_setCell_other _ _ _ _ (by simp)]; exact h.c1)
  · rw [World.cell?_setCell_other _ _ _ _ (by simp), World.cell?_setCell_other _ _ _ _ (by simp)]; exact h.c2
theorem EC.put {W : World} {b : Nat} {t k : Int} {dv : Value} (h : EC W b t k dv) (dv' : Value) : EC (W.setCell ⟨b, 2, none⟩ dv') b t k dv' := by
  refine ⟨?_, ?_, World.cell?_setCell_same _ _ _ h.c2, by rw [World.frozen?_setCell]; exact h.f0, by rw [World.frozen?_setCell]; exact h.f1, by rw [World.frozen?_setCell]; exact h.f2⟩
  · rw [World.cell?_setCell_other _ _ _ _ (by simp)]; exact h.c0
  · rw [World.cell?_setCell_other _ _ _ _ (by simp)]; exact h.c1
theorem EC.set3 {W : World} {b : Nat} {t k : Int} {dv : Value} (h : EC W b t k dv) : EC (((W.setCell ⟨b, 0, none⟩ (.int .u64 t)).setCell ⟨b, 1, none⟩ (.int .i64 k)).setCell ⟨b, 2, none⟩ dv) b t k dv := (h.set t k).put dv
theorem EC.kept3 (W : World) (b : Nat) (x y z : Value) : Kept W (((W.setCell ⟨b, 0, none⟩ x).setCell ⟨b, 1, none⟩ y).setCell ⟨b, 2, none⟩ z) (fun k => k = b) :=
  ((Kept.setCell W ⟨b, 0, none⟩ x).trans (Kept.setCell _ ⟨b, 1, none⟩ y)).trans (Kept.setCell _ ⟨b, 2, none⟩ z)

set_option maxHeartbeats 4000000 in
set_option maxRecDepth 20000 in
theorem gln_any (kd ix : Nat) (v : Value) (l : List Nat) (rb : Nat) (w : World) (hB : Bytes w v l) (hrb : l = [] ∨ v.ownBlock = some rb) (hlt : rb < w.heap.size) :
    Calls Tryz.prog 76 #[.int .u8 kd, v, .int .u64 ix] w fun e w' => ∃ dv, e = .returned (.tuple #[.agg #[.int .u64 (lbX l).t, .int .i64 (lbX l).k, dv], .bool (decide (kd = 2 ∧ lbE l = 0 ∧ lbI l = ix ∧ (lbX l).ok))]) ∧ Bytes w' dv (lbX l).d ∧ (∀ b, dv.ownBlock = some b → w.heap.size ≤ b) ∧ Below w.heap.size w w' := by
  have HB := Lib.hid hB
  have HRB := Lib.hid hrb
  have HLT := Lib.hid hlt
  obtain ⟨a, c, rfl, _⟩ := hB.shape
  obtain ⟨q, hq⟩ : ∃ q, lbE l = q := ⟨_, rfl⟩
  have HQ : Hid (endE (textL 4096 (lbR3 l)) (((numB M64 l || numB H60 (lbR1 l)) || numB 3 (lbR2 l)) || textB 4096 (lbR3 l)) = q) := Lib.hid hq
  have HQE := Lib.hid hq
  obtain ⟨u, hu⟩ : ∃ u, lbI l = u := ⟨_, rfl⟩
  have HU := Lib.hid hu
  obtain ⟨t, ht⟩ : ∃ t : Nat, numV H60 (lbR1 l) = t := ⟨_, rfl⟩
  have HT : Hid ((lbX l).t = (t : Nat)) := Lib.hid (by unfold lbX; rw [ht])
  have HTE := Lib.hid ht
  obtain ⟨k, hk⟩ : ∃ k : Nat, numV 3 (lbR2 l) = k := ⟨_, rfl⟩
  have HK : Hid ((lbX l).k = (k : Nat)) := Lib.hid (by unfold lbX; rw [hk])
  have HKE := Lib.hid hk
  have hk3 : (k : Int) ≤ 3 := by have := numV_le 3 (lbR2 l); omega
  have hkw : IntKind.i64.wrap (k : Int) = (k : Int) := by simp only [IntKind.wrap_i64]; omega
  have HGS : Hid (gSnd (t : Nat) (k : Nat) (textV 4096 (lbR3 l)).length = decide (lbX l).ok) := Lib.hid (by rw [← gsnd_ok, HT.out, HK.out]; rfl)
  obtain ⟨OK, hOK⟩ : ∃ b : Bool, decide (lbX l).ok = b := ⟨_, rfl⟩
  have HOK := Lib.hid hOK
  rw [hOK] at HGS
  clear hB hrb hlt hq hu ht hk hk3 hOK
  go_enter Tryz.func76, Tryz.ntmps76
  go_wp2_with fail
  have E1 : Hid (EC (w.alloc (.cells #[.int .u64 0, .int .i64 0, .slice none 0 0] 38)) w.heap.size 0 0 (.slice none 0 0)) := Lib.hid ⟨by go_cell, by go_cell, by go_cell, by simp, by simp, by simp⟩
  have B1 : Hid (Below w.heap.size w (w.alloc (.cells #[.int .u64 0, .int .i64 0, .slice none 0 0] 38))) := Lib.hid ((Below.refl _ _).alloc (Nat.le_refl _) _)
  have L1 : w.heap.size < (w.alloc (.cells #[.int .u64 0, .int .i64 0, .slice none 0 0] 38)).heap.size := by simp
  generalize World.alloc w _ = w1 at *
  refine (qopen_any _ _ w1 (HB.out.below B1.out) HRB.out (by have := HLT.out; omega)).mono ?_
  rintro e w2 ⟨rfl, hr2, hb2⟩
  have R2 := Lib.hid hr2
  have E2 := Lib.hid (E1.out.below hb2)
  have B2 : Hid (Below w.heap.size w w2) := Lib.hid (B1.out.trans (hb2.mono B1.out.size))
  obtain ⟨r, hr⟩ : ∃ r, w1.heap.size = r := ⟨_, rfl⟩
  have HR : Hid (w.heap.size < r) := Lib.hid (by omega)
  rw [hr] at R2 ⊢
  clear hr2 hb2 hr E1 L1 HB HRB
  have NR : Hid (¬ w.heap.size = r) := Lib.hid (by have := HR.out; omega)
  have NRB : Hid (¬ rb = w.heap.size) := Lib.hid (by have := HLT.out; omega)
  go_wp2_with fail
  refine (qnum_any r 18446744073709551615 _ _ w2 R2.out (by decide) (by decide)).mono ?_
  rintro e w3 ⟨rfl, hr3, hk3⟩
  have R3 : Hid (RdrIs w3 r rb (lbR1 l) (numB M64 l)) := Lib.hid (by have h := hr3; rw [Bool.false_or] at h; exact h)
  have E3 := Lib.hid (E2.out.kept hk3 NR.out)
  have B3 : Hid (Below w.heap.size w w3) := Lib.hid (B2.out.trans (hk3.below B2.out.size fun b e => by have := HR.out; omega))
  have HU2 : Hid (numV (Int.toNat 18446744073709551615) l = u) := Lib.hid HU.out
  rw [HU2.out]
  clear hr3 hk3
  go_wp2_with fail
  refine (qnum_any r 1152921504606846976 _ _ w3 R3.out (by decide) (by decide)).mono ?_
  rintro e w4 ⟨rfl, hr4, hk4⟩
  have R4 : Hid (RdrIs w4 r rb (lbR2 l) (numB M64 l || numB H60 (lbR1 l))) := Lib.hid hr4
  have E4 := Lib.hid (E3.out.kept hk4 NR.out)
  have B4 : Hid (Below w.heap.size w w4) := Lib.hid (B3.out.trans (hk4.below B3.out.size fun b e => by have := HR.out; omega))
  have HT2 : Hid (numV (Int.toNat 1152921504606846976) (lbR1 l) = t) := Lib.hid HTE.out
  rw [HT2.out]
  clear hr4 hk4
  go_wp2_with fail
  refine (qnum_any r 3 _ _ w4 R4.out (by decide) (by decide)).mono ?_
  rintro e w5 ⟨rfl, hr5, hk5⟩
  have R5 : Hid (RdrIs w5 r rb (lbR3 l) ((numB M64 l || numB H60 (lbR1 l)) || numB 3 (lbR2 l))) := Lib.hid hr5
  have E5 := Lib.hid (E4.out.kept hk5 NR.out)
  have B5 : Hid (Below w.heap.size w w5) := Lib.hid (B4.out.trans (hk5.below B4.out.size fun b e => by have := HR.out; omega))
  have HK2 : Hid (numV (Int.toNat 3) (lbR2 l) = k) := Lib.hid HKE.out
  rw [HK2.out]
  clear hr5 hk5
  obtain ⟨y0, y1, y2, g0, g1, g2⟩ := E5.out
  go_wp2_with fail
  have E6 : Hid (EC ((w5.setCell ⟨w.heap.size, 0, none⟩ (.int .u64 (t : Nat))).setCell ⟨w.heap.size, 1, none⟩ (.int .i64 (k : Nat))) w.heap.size (t : Nat) (k : Nat) (.slice none 0 0)) := Lib.hid (E5.out.set _ _)
  have K6 : Kept w5 ((w5.setCell ⟨w.heap.size, 0, none⟩ (.int .u64 (t : Nat))).setCell ⟨w.heap.size, 1, none⟩ (.int .i64 (k : Nat))) (fun b => b = w.heap.size) := (Kept.setCell w5 ⟨w.heap.size, 0, none⟩ _).trans (Kept.setCell _ ⟨w.heap.size, 1, none⟩ _)
  clear y0 y1 y2 g0 g1 g2
  generalize hw6 : World.setCell (World.setCell w5 _ _) _ _ = w6 at *
  have R6 : Hid (RdrIs w6 r rb (lbR3 l) ((numB M64 l || numB H60 (lbR1 l)) || numB 3 (lbR2 l))) := Lib.hid (R5.out.kept K6 (fun e => NR.out e.symm) NRB.out)
  have B6 : Hid (Below w.heap.size w w6) := Lib.hid (B5.out.trans (K6.below B5.out.size fun b e => by omega))
  have HTX : Hid (natsOf (strN (textV 4096 (lbR3 l))) = textV 4096 (lbR3 l)) := Lib.hid (natsOf_strN fun c hc => by obtain ⟨v, _, hB, _⟩ := R6.out.ex; exact hB.lt c (textV_mem c hc))
  clear hw6 K6
  go_wp2_with fail
  refine (qtext_any r 4096 _ _ w6 R6.out (by decide)).mono ?_
  rintro e w7 ⟨rfl, hr7, hk7⟩
  have R7 : Hid (RdrIs w7 r rb (textL 4096 (lbR3 l)) (((numB M64 l || numB H60 (lbR1 l)) || numB 3 (lbR2 l)) || textB 4096 (lbR3 l))) := Lib.hid hr7
  have E7 := Lib.hid (E6.out.kept hk7 NR.out)
  have B7 : Hid (Below w.heap.size w w7) := Lib.hid (B6.out.trans (hk7.below B6.out.size fun b e => by have := HR.out; omega))
  clear hr7 hk7
  obtain ⟨dv, w8, hrun, hB8, hb8, ho8⟩ := run_bytes_str (P := Tryz.prog) w7 9 36 5 (strN (textV 4096 (lbR3 l))) Tryz.underlying9 Tryz.underlying36 Tryz.underlying5 (by rw [size_strN]; have := textV_len 4096 (lbR3 l); omega)
  rw [HTX.out] at hB8
  obtain ⟨da, dn, dc, rfl⟩ : ∃ a n c, dv = .slice a n c := by obtain ⟨a, c, e, _⟩ := hB8.shape; exact ⟨a, _, c, e⟩
  have E8 := Lib.hid (E7.out.below hb8)
  have HB8 := Lib.hid hB8
  have R8 := Lib.hid (R7.out.below hb8)
  have B8 : Hid (Below w.heap.size w w8) := Lib.hid (B7.out.trans (hb8.mono B7.out.size))
  have HDO : Hid (∀ b, (Value.slice da dn dc).ownBlock = some b → w.heap.size ≤ b) := Lib.hid fun b hb => by rw [ho8] at hb; obtain rfl := Option.some.inj hb; exact B7.out.size
  have HDN : Hid (∀ b, (Value.slice da dn dc).ownBlock = some b → b ≠ w.heap.size) := Lib.hid fun b hb => by rw [ho8] at hb; obtain rfl := Option.some.inj hb; have := E7.out.lt; omega
  clear hB8 hb8 ho8
  obtain ⟨y0, y1, y2, g0, g1, g2⟩ := E8.out
  go_wp2_with fail
  have E9 : Hid (EC (w8.setCell ⟨w.heap.size, 2, none⟩ (.slice da dn dc)) w.heap.size (t : Nat) (k : Nat) (.slice da dn dc)) := Lib.hid (E8.out.put _)
  have K9 : Kept w8 (w8.setCell ⟨w.heap.size, 2, none⟩ (.slice da dn dc)) (fun b => b = w.heap.size) := Kept.setCell w8 ⟨w.heap.size, 2, none⟩ _
  clear y0 y1 y2 g0 g1 g2 hrun
  generalize hw9 : World.setCell w8 _ _ = w9 at *
  have R9 := Lib.hid (R8.out.kept K9 (fun e => NR.out e.symm) NRB.out)
  have B9 : Hid (Below w.heap.size w w9) := Lib.hid (B8.out.trans (K9.below B8.out.size fun b e => by omega))
  have HBD : Hid (Bytes w9 (.slice da dn dc) (lbX l).d) := Lib.hid (HB8.out.kept K9 fun b hb e => HDN.out b hb e)
  have R9d := Lib.hid (R9.out.below ((Below.refl w9.heap.size w9).drew))
  have HBd : Hid (Bytes w9.drew (.slice da dn dc) (textV 4096 (lbR3 l))) := Lib.hid (HBD.out.drew)
  have XR := Lib.hid E9.out.cells
  clear hw9 K9 E2 E3 E4 E5 E6 E7 E8 R2 R3 R4 R5 R6 R7 R8 B1 B2 B3 B4 B5 B6 B7 B8 hkw
  by_cases h2 : kd = 2
  · have b2 : ((kd : Int) == 2) = true := by rw [h2]; rfl
    have H2 := Lib.hid h2
    clear h2
    by_cases hq0 : q = 0
    · have bq : ((q : Int) == 0) = true := by rw [hq0]; rfl
      have HQ0 := Lib.hid hq0
      clear hq0
      by_cases hix : u = ix
      · have bi : ((u : Int) == (ix : Int)) = true := by rw [hix]; simp
        have HV : Hid (decide (kd = 2 ∧ lbE l = 0 ∧ lbI l = ix ∧ (lbX l).ok) = OK) := Lib.hid (by rw [← HOK.out, decide_eq_decide]; exact ⟨fun h => h.2.2.2, fun h => ⟨H2.out, by rw [HQE.out]; exact HQ0.out, by rw [HU.out]; exact hix, h⟩⟩)
        clear hix
        go_wp2_with fail
        refine region_start [0, 0, 2, 6, 14, 30, 62, 126, 254, 510, 510, 2046, 4094, 8190, 16382, 32766, 65534, 65535, 262143] 262112 (fun w' => w'.cell? ⟨w.heap.size, 0, none⟩ = some (.int .u64 (t : Nat)) ∧ w'.cell? ⟨w.heap.size, 1, none⟩ = some (.int .i64 (k : Nat)) ∧ w'.cell? ⟨w.heap.size, 2, none⟩ = some (.slice da dn dc)) (by kernel_rfl) ?_
        refine stage_heads [0, 1, 2, 3, 4] (by kernel_rfl) (L := #[true, true, true, true, true, false, false, false, false, false, false, false, false, false, false, false, false, false, false]) (by kernel_rfl) (f' := 14) rfl (fun _ _ _ _ h => h) (fun w o h => (((Stable.cell _ _).and ((Stable.cell _ _).and (Stable.cell _ _))).alloc h o)) (.inr XR.out) ?_
        simp only [List.flatMap_cons, List.flatMap_nil, List.drop_succ_cons, List.drop_zero, List.take_succ_cons, List.take_zero, List.cons_append, List.nil_append, List.append_nil]
        iterate 5 (first | (refine heads_load _ (by rfl) (fun w' hs => by obtain ⟨y0, y1, y2⟩ := hs; go_simp; try with_reducible rfl) rfl ?_; simp only [Act.put, List.setIfInBounds_toArray, List.set_cons_zero, List.set_cons_succ]) | (refine heads_pure _ (by rfl) (fun w' => by go_simp; try with_reducible rfl) ?_; simp only [Act.put, List.setIfInBounds_toArray, List.set_cons_zero, List.set_cons_succ]) | (refine heads_skip (by rfl) ?_; simp only [Act.put, List.setIfInBounds_toArray, List.set_cons_zero, List.set_cons_succ]))
        refine heads_nil ?_
        refine stage_op 5 (by kernel_rfl) (L := #[true, true, true, true, true, true, false, false, false, false, false, false, false, false, false, false, false, false, false]) (by kernel_rfl) ?_
        simp only [List.drop_succ_cons, List.drop_zero, List.take_succ_cons, List.take_zero]
        go_wp2_with fail; refine (qend_any _ _ _ _ R9d.out).mono ?_; rintro e u5 ⟨rfl, rfl⟩; rw [HQ.out]; go_wp2_with fail
        refine step_post (fun _ => XR.out) ?_
        refine stage_heads [6, 7, 8, 9, 10, 11, 12, 13, 14] (by kernel_rfl) (L := #[true, true, true, true, true, true, true, true, true, true, true, true, true, true, true, false, false, false, false]) (by kernel_rfl) (f' := 4) rfl (fun _ _ _ _ h => h) (fun w o h => (((Stable.cell _ _).and ((Stable.cell _ _).and (Stable.cell _ _))).alloc h o)) (.inr (by first | exact XR.out | exact (E9.out.below B10.out).cells)) ?_
        simp only [List.flatMap_cons, List.flatMap_nil, List.drop_succ_cons, List.drop_zero, List.take_succ_cons, List.take_zero, List.cons_append, List.nil_append, List.append_nil]
        iterate 9 (first | (refine heads_load _ (by rfl) (fun w' hs => by obtain ⟨y0, y1, y2⟩ := hs; go_simp; try with_reducible rfl) rfl ?_; simp only [Act.put, List.setIfInBounds_toArray, List.set_cons_zero, List.set_cons_succ]) | (refine heads_pure _ (by rfl) (fun w' => by go_simp; try with_reducible rfl) ?_; simp only [Act.put, List.setIfInBounds_toArray, List.set_cons_zero, List.set_cons_succ]) | (refine heads_skip (by rfl) ?_; simp only [Act.put, List.setIfInBounds_toArray, List.set_cons_zero, List.set_cons_succ]))
        refine heads_nil ?_
        refine stage_op 15 (by kernel_rfl) (L := #[true, true, true, true, true, true, true, true, true, true, true, true, true, true, true, true, false, false, false]) (by kernel_rfl) ?_
        simp only [List.drop_succ_cons, List.drop_zero, List.take_succ_cons, List.take_zero]
        go_wp2_with fail; refine (gsound_any (t : Nat) (k : Nat) _ (textV 4096 (lbR3 l)) _ HBd.out).mono ?_; rintro e w10 ⟨rfl, hb10⟩; have B10 : Hid (Below w9.heap.size w9 w10) := Lib.hid (((Below.refl w9.heap.size w9).drew).trans hb10); clear hb10; rw [HGS.out]; go_wp2_with fail
        refine step_post (fun _ => (E9.out.below B10.out).cells) ?_
        refine stage_heads [16] (by kernel_rfl) (L := #[true, true, true, true, true, true, true, true, true, true, true, true, true, true, true, true, true, false, false]) (by kernel_rfl) (f' := 2) rfl (fun _ _ _ _ h => h) (fun w o h => (((Stable.cell _ _).and ((Stable.cell _ _).and (Stable.cell _ _))).alloc h o)) (.inr (by first | exact XR.out | exact (E9.out.below B10.out).cells)) ?_
        simp only [List.flatMap_cons, List.flatMap_nil, List.drop_succ_cons, List.drop_zero, List.take_succ_cons, List.take_zero, List.append_nil]
        iterate 1 (refine heads_pure _ (by rfl) (fun w' => by go_simp; try with_reducible rfl) ?_; simp only [Act.put, List.setIfInBounds_toArray, List.set_cons_zero, List.set_cons_succ])
        refine heads_nil ?_
        refine stage_op 17 (by kernel_rfl) (L := #[true, true, true, true, true, true, true, true, true, true, true, true, true, true, true, true, true, true, false]) (by kernel_rfl) ?_
        simp only [List.drop_succ_cons, List.drop_zero, List.take_succ_cons, List.take_zero]
        have E10 := Lib.hid (E9.out.below B10.out); obtain ⟨z0, z1, z2, g0, g1, g2⟩ := E10.out; go_wp2_with fail; generalize hw11 : World.setCell (World.setCell (World.setCell _ _ _) _ _) _ _ = w11; have E11 : Hid (EC w11 w.heap.size (t : Nat) (k : Nat) (.slice da dn dc)) := Lib.hid (by subst hw11; exact E10.out.set3); have B11 : Hid (Kept w9 w11 (fun b => b = w.heap.size)) := Lib.hid (by subst hw11; exact (Kept.of_below B10.out (fun k h1 h2 => by omega)).trans (EC.kept3 _ _ _ _ _)); clear hw11 z0 z1 z2 g0 g1 g2
        refine step_post (fun _ => E11.out.cells) ?_
        refine stage_heads [18] (by kernel_rfl) (L := #[true, true, true, true, true, true, true, true, true, true, true, true, true, true, true, true, true, true, true]) (by kernel_rfl) (f' := 0) rfl (fun _ _ _ _ h => h) (fun w o h => (((Stable.cell _ _).and ((Stable.cell _ _).and (Stable.cell _ _))).alloc h o)) (.inl (by kernel_rfl)) ?_
        simp only [List.flatMap_cons, List.flatMap_nil, List.drop_succ_cons, List.drop_zero, List.take_succ_cons, List.take_zero, List.append_nil]
        iterate 1 (refine heads_pure _ (by rfl) (fun w' => by go_simp; try with_reducible rfl) ?_; simp only [Act.put, List.setIfInBounds_toArray, List.set_cons_zero, List.set_cons_succ])
        refine heads_nil ?_
        refine stage_done (by kernel_rfl) ?_
        go_wp2_with fail
        obtain ⟨r0, r1, r2, _, _, _⟩ := E11.out
        refine bodyPost_ret (v := .tuple #[.agg #[.int .u64 (t : Nat), .int .i64 (k : Nat), .slice da dn dc], .bool OK]) (by simp [results, Tryz.results76, go_sem, r0, r1, r2]) rfl ?_
        have BF : Below w.heap.size w w11 := B9.out.trans (B11.out.below B9.out.size fun b e => by omega)
        refine ⟨.slice da dn dc, by rw [HV.out, HT.out, HK.out], ?_, HDO.out, by first | exact BF | exact BF.drew⟩
        have HBF := HBD.out.kept B11.out fun b hb e => HDN.out b hb e
        first | exact HBF | exact HBF.drew

      · have bi : ((u : Int) == (ix : Int)) = false := by simp; omega
        have HV : Hid (decide (kd = 2 ∧ lbE l = 0 ∧ lbI l = ix ∧ (lbX l).ok) = false) := Lib.hid (decide_eq_false fun h => hix (by rw [← HU.out]; exact h.2.2.1))
        clear hix
        go_wp2_with fail
        refine region_start [0, 0, 2, 6, 14, 30, 62, 126, 254, 510, 510, 2046, 4094, 8190, 16382, 32766, 65534, 65535, 262143] 262112 (fun w' => w'.cell? ⟨w.heap.size, 0, none⟩ = some (.int .u64 (t : Nat)) ∧ w'.cell? ⟨w.heap.size, 1, none⟩ = some (.int .i64 (k : Nat)) ∧ w'.cell? ⟨w.heap.size, 2, none⟩ = some (.slice da dn dc)) (by kernel_rfl) ?_
        refine stage_heads [0, 1, 2, 3, 4] (by kernel_rfl) (L := #[true, true, true, true, true, false, false, false, false, false, false, false, false, false, false, false, false, false, false]) (by kernel_rfl) (f' := 14) rfl (fun _ _ _ _ h => h) (fun w o h => (((Stable.cell _ _).and ((Stable.cell _ _).and (Stable.cell _ _))).alloc h o)) (.inr XR.out) ?_
        simp only [List.flatMap_cons, List.flatMap_nil, List.drop_succ_cons, List.drop_zero, List.take_succ_cons, List.take_zero, List.cons_append, List.nil_append, List.append_nil]
        iterate 5 (first | (refine heads_load _ (by rfl) (fun w' hs => by obtain ⟨y0, y1, y2⟩ := hs; go_simp; try with_reducible rfl) rfl ?_; simp only [Act.put, List.setIfInBounds_toArray, List.set_cons_zero, List.set_cons_succ]) | (refine heads_pure _ (by rfl) (fun w' => by go_simp; try with_reducible rfl) ?_; simp only [Act.put, List.setIfInBounds_toArray, List.set_cons_zero, List.set_cons_succ]) | (refine heads_skip (by rfl) ?_; simp only [Act.put, List.setIfInBounds_toArray, List.set_cons_zero, List.set_cons_succ]))
        refine heads_nil ?_
        refine stage_op 5 (by kernel_rfl) (L := #[true, true, true, true, true, true, false, false, false, false, false, false, false, false, false, false, false, false, false]) (by kernel_rfl) ?_
        simp only [List.drop_succ_cons, List.drop_zero, List.take_succ_cons, List.take_zero]
        go_wp2_with fail; refine (qend_any _ _ _ _ R9d.out).mono ?_; rintro e u5 ⟨rfl, rfl⟩; rw [HQ.out]; go_wp2_with fail
        refine step_post (fun _ => XR.out) ?_
        refine stage_heads [6, 7, 8, 9, 10, 11, 12, 13, 14] (by kernel_rfl) (L := #[true, true, true, true, true, true, true, true, true, true, true, true, true, true, true, false, false, false, false]) (by kernel_rfl) (f' := 4) rfl (fun _ _ _ _ h => h) (fun w o h => (((Stable.cell _ _).and ((Stable.cell _ _).and (Stable.cell _ _))).alloc h o)) (.inr (by first | exact XR.out | exact (E9.out.below B10.out).cells)) ?_
        simp only [List.flatMap_cons, List.flatMap_nil, List.drop_succ_cons, List.drop_zero, List.take_succ_cons, List.take_zero, List.cons_append, List.nil_append, List.append_nil]
        iterate 9 (first | (refine heads_load _ (by rfl) (fun w' hs => by obtain ⟨y0, y1, y2⟩ := hs; go_simp; try with_reducible rfl) rfl ?_; simp only [Act.put, List.setIfInBounds_toArray, List.set_cons_zero, List.set_cons_succ]) | (refine heads_pure _ (by rfl) (fun w' => by go_simp; try with_reducible rfl) ?_; simp only [Act.put, List.setIfInBounds_toArray, List.set_cons_zero, List.set_cons_succ]) | (refine heads_skip (by rfl) ?_; simp only [Act.put, List.setIfInBounds_toArray, List.set_cons_zero, List.set_cons_succ]))
        refine heads_nil ?_
        refine stage_op 15 (by kernel_rfl) (L := #[true, true, true, true, true, true, true, true, true, true, true, true, true, true, true, true, false, false, false]) (by kernel_rfl) ?_
        simp only [List.drop_succ_cons, List.drop_zero, List.take_succ_cons, List.take_zero]
        go_wp2_with fail
        refine step_post (fun _ => XR.out) ?_
        refine stage_heads [16] (by kernel_rfl) (L := #[true, true, true, true, true, true, true, true, true, true, true, true, true, true, true, true, true, false, false]) (by kernel_rfl) (f' := 2) rfl (fun _ _ _ _ h => h) (fun w o h => (((Stable.cell _ _).and ((Stable.cell _ _).and (Stable.cell _ _))).alloc h o)) (.inr (by first | exact XR.out | exact (E9.out.below B10.out).cells)) ?_
        simp only [List.flatMap_cons, List.flatMap_nil, List.drop_succ_cons, List.drop_zero, List.take_succ_cons, List.take_zero, List.append_nil]
        iterate 1 (refine heads_pure _ (by rfl) (fun w' => by go_simp; try with_reducible rfl) ?_; simp only [Act.put, List.setIfInBounds_toArray, List.set_cons_zero, List.set_cons_succ])
        refine heads_nil ?_
        refine stage_op 17 (by kernel_rfl) (L := #[true, true, true, true, true, true, true, true, true, true, true, true, true, true, true, true, true, true, false]) (by kernel_rfl) ?_
        simp only [List.drop_succ_cons, List.drop_zero, List.take_succ_cons, List.take_zero]
        have E10 := E9; obtain ⟨z0, z1, z2, g0, g1, g2⟩ := E10.out; go_wp2_with fail; generalize hw11 : World.setCell (World.setCell (World.setCell _ _ _) _ _) _ _ = w11; have E11 : Hid (EC w11 w.heap.size (t : Nat) (k : Nat) (.slice da dn dc)) := Lib.hid (by subst hw11; exact E10.out.set3); have B11 : Hid (Kept w9 w11 (fun b => b = w.heap.size)) := Lib.hid (by subst hw11; exact EC.kept3 _ _ _ _ _); clear hw11 z0 z1 z2 g0 g1 g2
        refine step_post (fun _ => E11.out.cells) ?_
        refine stage_heads [18] (by kernel_rfl) (L := #[true, true, true, true, true, true, true, true, true, true, true, true, true, true, true, true, true, true, true]) (by kernel_rfl) (f' := 0) rfl (fun _ _ _ _ h => h) (fun w o h => (((Stable.cell _ _).and ((Stable.cell _ _).and (Stable.cell _ _))).alloc h o)) (.inl (by kernel_rfl)) ?_
        simp only [List.flatMap_cons, List.flatMap_nil, List.drop_succ_cons, List.drop_zero, List.take_succ_cons, List.take_zero, List.append_nil]
        iterate 1 (refine heads_pure _ (by rfl) (fun w' => by go_simp; try with_reducible rfl) ?_; simp only [Act.put, List.setIfInBounds_toArray, List.set_cons_zero, List.set_cons_succ])
        refine heads_nil ?_
        refine stage_done (by kernel_rfl) ?_
        go_wp2_with fail
        obtain ⟨r0, r1, r2, _, _, _⟩ := E11.out
        refine bodyPost_ret (v := .tuple #[.agg #[.int .u64 (t : Nat), .int .i64 (k : Nat), .slice da dn dc], .bool false]) (by simp [results, Tryz.results76, go_sem, r0, r1, r2]) rfl ?_
        have BF : Below w.heap.size w w11 := B9.out.trans (B11.out.below B9.out.size fun b e => by omega)
        refine ⟨.slice da dn dc, by rw [HV.out, HT.out, HK.out], ?_, HDO.out, by first | exact BF | exact BF.drew⟩
        have HBF := HBD.out.kept B11.out fun b hb e => HDN.out b hb e
        first | exact HBF | exact HBF.drew

    · have bq : ((q : Int) == 0) = false := by simp; omega
      have HV : Hid (decide (kd = 2 ∧ lbE l = 0 ∧ lbI l = ix ∧ (lbX l).ok) = false) := Lib.hid (decide_eq_false fun h => hq0 (by rw [← HQE.out]; exact h.2.1))
      clear hq0
      go_wp2_with fail
      refine region_start [0, 0, 2, 6, 14, 30, 62, 126, 254, 510, 510, 2046, 4094, 8190, 16382, 32766, 65534, 65535, 262143] 262112 (fun w' => w'.cell? ⟨w.heap.size, 0, none⟩ = some (.int .u64 (t : Nat)) ∧ w'.cell? ⟨w.heap.size, 1, none⟩ = some (.int .i64 (k : Nat)) ∧ w'.cell? ⟨w.heap.size, 2, none⟩ = some (.slice da dn dc)) (by kernel_rfl) ?_
      refine stage_heads [0, 1, 2, 3, 4] (by kernel_rfl) (L := #[true, true, true, true, true, false, false, false, false, false, false, false, false, false, false, false, false, false, false]) (by kernel_rfl) (f' := 14) rfl (fun _ _ _ _ h => h) (fun w o h => (((Stable.cell _ _).and ((Stable.cell _ _).and (Stable.cell _ _))).alloc h o)) (.inr XR.out) ?_
      simp only [List.flatMap_cons, List.flatMap_nil, List.drop_succ_cons, List.drop_zero, List.take_succ_cons, List.take_zero, List.cons_append, List.nil_append, List.append_nil]
      iterate 5 (first | (refine heads_load _ (by rfl) (fun w' hs => by obtain ⟨y0, y1, y2⟩ := hs; go_simp; try with_reducible rfl) rfl ?_; simp only [Act.put, List.setIfInBounds_toArray, List.set_cons_zero, List.set_cons_succ]) | (refine heads_pure _ (by rfl) (fun w' => by go_simp; try with_reducible rfl) ?_; simp only [Act.put, List.setIfInBounds_toArray, List.set_cons_zero, List.set_cons_succ]) | (refine heads_skip (by rfl) ?_; simp only [Act.put, List.setIfInBounds_toArray, List.set_cons_zero, List.set_cons_succ]))
      refine heads_nil ?_
      refine stage_op 5 (by kernel_rfl) (L := #[true, true, true, true, true, true, false, false, false, false, false, false, false, false, false, false, false, false, false]) (by kernel_rfl) ?_
      simp only [List.drop_succ_cons, List.drop_zero, List.take_succ_cons, List.take_zero]
      go_wp2_with fail; refine (qend_any _ _ _ _ R9d.out).mono ?_; rintro e u5 ⟨rfl, rfl⟩; rw [HQ.out]; go_wp2_with fail
      refine step_post (fun _ => XR.out) ?_
      refine stage_heads [6, 7, 8, 9, 10, 11, 12, 13, 14] (by kernel_rfl) (L := #[true, true, true, true, true, true, true, true, true, true, true, true, true, true, true, false, false, false, false]) (by kernel_rfl) (f' := 4) rfl (fun _ _ _ _ h => h) (fun w o h => (((Stable.cell _ _).and ((Stable.cell _ _).and (Stable.cell _ _))).alloc h o)) (.inr (by first | exact XR.out | exact (E9.out.below B10.out).cells)) ?_
      simp only [List.flatMap_cons, List.flatMap_nil, List.drop_succ_cons, List.drop_zero, List.take_succ_cons, List.take_zero, List.cons_append, List.nil_append, List.append_nil]
      iterate 9 (first | (refine heads_load _ (by rfl) (fun w' hs => by obtain ⟨y0, y1, y2⟩ := hs; go_simp; try with_reducible rfl) rfl ?_; simp only [Act.put, List.setIfInBounds_toArray, List.set_cons_zero, List.set_cons_succ]) | (refine heads_pure _ (by rfl) (fun w' => by go_simp; try with_reducible rfl) ?_; simp only [Act.put, List.setIfInBounds_toArray, List.set_cons_zero, List.set_cons_succ]) | (refine heads_skip (by rfl) ?_; simp only [Act.put, List.setIfInBounds_toArray, List.set_cons_zero, List.set_cons_succ]))
      refine heads_nil ?_
      refine stage_op 15 (by kernel_rfl) (L := #[true, true, true, true, true, true, true, true, true, true, true, true, true, true, true, true, false, false, false]) (by kernel_rfl) ?_
      simp only [List.drop_succ_cons, List.drop_zero, List.take_succ_cons, List.take_zero]
      go_wp2_with fail
      refine step_post (fun _ => XR.out) ?_
      refine stage_heads [16] (by kernel_rfl) (L := #[true, true, true, true, true, true, true, true, true, true, true, true, true, true, true, true, true, false, false]) (by kernel_rfl) (f' := 2) rfl (fun _ _ _ _ h => h) (fun w o h => (((Stable.cell _ _).and ((Stable.cell _ _).and (Stable.cell _ _))).alloc h o)) (.inr (by first | exact XR.out | exact (E9.out.below B10.out).cells)) ?_
      simp only [List.flatMap_cons, List.flatMap_nil, List.drop_succ_cons, List.drop_zero, List.take_succ_cons, List.take_zero, List.append_nil]
      iterate 1 (refine heads_pure _ (by rfl) (fun w' => by go_simp; try with_reducible rfl) ?_; simp only [Act.put, List.setIfInBounds_toArray, List.set_cons_zero, List.set_cons_succ])
      refine heads_nil ?_
      refine stage_op 17 (by kernel_rfl) (L := #[true, true, true, true, true, true, true, true, true, true, true, true, true, true, true, true, true, true, false]) (by kernel_rfl) ?_
      simp only [List.drop_succ_cons, List.drop_zero, List.take_succ_cons, List.take_zero]
      have E10 := E9; obtain ⟨z0, z1, z2, g0, g1, g2⟩ := E10.out; go_wp2_with fail; generalize hw11 : World.setCell (World.setCell (World.setCell _ _ _) _ _) _ _ = w11; have E11 : Hid (EC w11 w.heap.size (t : Nat) (k : Nat) (.slice da dn dc)) := Lib.hid (by subst hw11; exact E10.out.set3); have B11 : Hid (Kept w9 w11 (fun b => b = w.heap.size)) := Lib.hid (by subst hw11; exact EC.kept3 _ _ _ _ _); clear hw11 z0 z1 z2 g0 g1 g2
      refine step_post (fun _ => E11.out.cells) ?_
      refine stage_heads [18] (by kernel_rfl) (L := #[true, true, true, true, true, true, true, true, true, true, true, true, true, true, true, true, true, true, true]) (by kernel_rfl) (f' := 0) rfl (fun _ _ _ _ h => h) (fun w o h => (((Stable.cell _ _).and ((Stable.cell _ _).and (Stable.cell _ _))).alloc h o)) (.inl (by kernel_rfl)) ?_
      simp only [List.flatMap_cons, List.flatMap_nil, List.drop_succ_cons, List.drop_zero, List.take_succ_cons, List.take_zero, List.append_nil]
      iterate 1 (refine heads_pure _ (by rfl) (fun w' => by go_simp; try with_reducible rfl) ?_; simp only [Act.put, List.setIfInBounds_toArray, List.set_cons_zero, List.set_cons_succ])
      refine heads_nil ?_
      refine stage_done (by kernel_rfl) ?_
      go_wp2_with fail
      obtain ⟨r0, r1, r2, _, _, _⟩ := E11.out
      refine bodyPost_ret (v := .tuple #[.agg #[.int .u64 (t : Nat), .int .i64 (k : Nat), .slice da dn dc], .bool false]) (by simp [results, Tryz.results76, go_sem, r0, r1, r2]) rfl ?_
      have BF : Below w.heap.size w w11 := B9.out.trans (B11.out.below B9.out.size fun b e => by omega)
      refine ⟨.slice da dn dc, by rw [HV.out, HT.out, HK.out], ?_, HDO.out, by first | exact BF | exact BF.drew⟩
      have HBF := HBD.out.kept B11.out fun b hb e => HDN.out b hb e
      first | exact HBF | exact HBF.drew

  · have b2 : ((kd : Int) == 2) = false := by simp; omega
    have HV : Hid (decide (kd = 2 ∧ lbE l = 0 ∧ lbI l = ix ∧ (lbX l).ok) = false) := Lib.hid (decide_eq_false fun h => h2 h.1)
    clear h2
    go_wp2_with fail
    refine region_start [0, 0, 2, 6, 14, 30, 62, 126, 254, 510, 510, 2046, 4094, 8190, 16382, 32766, 65534, 65535, 262143] 262112 (fun w' => w'.cell? ⟨w.heap.size, 0, none⟩ = some (.int .u64 (t : Nat)) ∧ w'.cell? ⟨w.heap.size, 1, none⟩ = some (.int .i64 (k : Nat)) ∧ w'.cell? ⟨w.heap.size, 2, none⟩ = some (.slice da dn dc)) (by kernel_rfl) ?_
    refine stage_heads [0, 1, 2, 3, 4] (by kernel_rfl) (L := #[true, true, true, true, true, false, false, false, false, false, false, false, false, false, false, false, false, false, false]) (by kernel_rfl) (f' := 14) rfl (fun _ _ _ _ h => h) (fun w o h => (((Stable.cell _ _).and ((Stable.cell _ _).and (Stable.cell _ _))).alloc h o)) (.inr XR.out) ?_
    simp only [List.flatMap_cons, List.flatMap_nil, List.drop_succ_cons, List.drop_zero, List.take_succ_cons, List.take_zero, List.cons_append, List.nil_append, List.append_nil]
    iterate 5 (first | (refine heads_load _ (by rfl) (fun w' hs => by obtain ⟨y0, y1, y2⟩ := hs; go_simp; try with_reducible rfl) rfl ?_; simp only [Act.put, List.setIfInBounds_toArray, List.set_cons_zero, List.set_cons_succ]) | (refine heads_pure _ (by rfl) (fun w' => by go_simp; try with_reducible rfl) ?_; simp only [Act.put, List.setIfInBounds_toArray, List.set_cons_zero, List.set_cons_succ]) | (refine heads_skip (by rfl) ?_; simp only [Act.put, List.setIfInBounds_toArray, List.set_cons_zero, List.set_cons_succ]))
    refine heads_nil ?_
    refine stage_op 5 (by kernel_rfl) (L := #[true, true, true, true, true, true, false, false, false, false, false, false, false, false, false, false, false, false, false]) (by kernel_rfl) ?_
    simp only [List.drop_succ_cons, List.drop_zero, List.take_succ_cons, List.take_zero]
    go_wp2_with fail
    refine step_post (fun _ => XR.out) ?_
    refine stage_heads [6, 7, 8, 9, 10, 11, 12, 13, 14] (by kernel_rfl) (L := #[true, true, true, true, true, true, true, true, true, true, true, true, true, true, true, false, false, false, false]) (by kernel_rfl) (f' := 4) rfl (fun _ _ _ _ h => h) (fun w o h => (((Stable.cell _ _).and ((Stable.cell _ _).and (Stable.cell _ _))).alloc h o)) (.inr (by first | exact XR.out | exact (E9.out.below B10.out).cells)) ?_
    simp only [List.flatMap_cons, List.flatMap_nil, List.drop_succ_cons, List.drop_zero, List.take_succ_cons, List.take_zero, List.cons_append, List.nil_append, List.append_nil]
    iterate 9 (first | (refine heads_load _ (by rfl) (fun w' hs => by obtain ⟨y0, y1, y2⟩ := hs; go_simp; try with_reducible rfl) rfl ?_; simp only [Act.put, List.setIfInBounds_toArray, List.set_cons_zero, List.set_cons_succ]) | (refine heads_pure _ (by rfl) (fun w' => by go_simp; try with_reducible rfl) ?_; simp only [Act.put, List.setIfInBounds_toArray, List.set_cons_zero, List.set_cons_succ]) | (refine heads_skip (by rfl) ?_; simp only [Act.put, List.setIfInBounds_toArray, List.set_cons_zero, List.set_cons_succ]))
    refine heads_nil ?_
    refine stage_op 15 (by kernel_rfl) (L := #[true, true, true, true, true, true, true, true, true, true, true, true, true, true, true, true, false, false, false]) (by kernel_rfl) ?_
    simp only [List.drop_succ_cons, List.drop_zero, List.take_succ_cons, List.take_zero]
    go_wp2_with fail
    refine step_post (fun _ => XR.out) ?_
    refine stage_heads [16] (by kernel_rfl) (L := #[true, true, true, true, true, true, true, true, true, true, true, true, true, true, true, true, true, false, false]) (by kernel_rfl) (f' := 2) rfl (fun _ _ _ _ h => h) (fun w o h => (((Stable.cell _ _).and ((Stable.cell _ _).and (Stable.cell _ _))).alloc h o)) (.inr (by first | exact XR.out | exact (E9.out.below B10.out).cells)) ?_
    simp only [List.flatMap_cons, List.flatMap_nil, List.drop_succ_cons, List.drop_zero, List.take_succ_cons, List.take_zero, List.append_nil]
    iterate 1 (refine heads_pure _ (by rfl) (fun w' => by go_simp; try with_reducible rfl) ?_; simp only [Act.put, List.setIfInBounds_toArray, List.set_cons_zero, List.set_cons_succ])
    refine heads_nil ?_
    refine stage_op 17 (by kernel_rfl) (L := #[true, true, true, true, true, true, true, true, true, true, true, true, true, true, true, true, true, true, false]) (by kernel_rfl) ?_
    simp only [List.drop_succ_cons, List.drop_zero, List.take_succ_cons, List.take_zero]
    have E10 := E9; obtain ⟨z0, z1, z2, g0, g1, g2⟩ := E10.out; go_wp2_with fail; generalize hw11 : World.setCell (World.setCell (World.setCell _ _ _) _ _) _ _ = w11; have E11 : Hid (EC w11 w.heap.size (t : Nat) (k : Nat) (.slice da dn dc)) := Lib.hid (by subst hw11; exact E10.out.set3); have B11 : Hid (Kept w9 w11 (fun b => b = w.heap.size)) := Lib.hid (by subst hw11; exact EC.kept3 _ _ _ _ _); clear hw11 z0 z1 z2 g0 g1 g2
    refine step_post (fun _ => E11.out.cells) ?_
    refine stage_heads [18] (by kernel_rfl) (L := #[true, true, true, true, true, true, true, true, true, true, true, true, true, true, true, true, true, true, true]) (by kernel_rfl) (f' := 0) rfl (fun _ _ _ _ h => h) (fun w o h => (((Stable.cell _ _).and ((Stable.cell _ _).and (Stable.cell _ _))).alloc h o)) (.inl (by kernel_rfl)) ?_
    simp only [List.flatMap_cons, List.flatMap_nil, List.drop_succ_cons, List.drop_zero, List.take_succ_cons, List.take_zero, List.append_nil]
    iterate 1 (refine heads_pure _ (by rfl) (fun w' => by go_simp; try with_reducible rfl) ?_; simp only [Act.put, List.setIfInBounds_toArray, List.set_cons_zero, List.set_cons_succ])
    refine heads_nil ?_
    refine stage_done (by kernel_rfl) ?_
    go_wp2_with fail
    obtain ⟨r0, r1, r2, _, _, _⟩ := E11.out
    refine bodyPost_ret (v := .tuple #[.agg #[.int .u64 (t : Nat), .int .i64 (k : Nat), .slice da dn dc], .bool false]) (by simp [results, Tryz.results76, go_sem, r0, r1, r2]) rfl ?_
    have BF : Below w.heap.size w w11 := B9.out.trans (B11.out.below B9.out.size fun b e => by omega)
    refine ⟨.slice da dn dc, by rw [HV.out, HT.out, HK.out], ?_, HDO.out, by first | exact BF | exact BF.drew⟩
    have HBF := HBD.out.kept B11.out fun b hb e => HDN.out b hb e
    first | exact HBF | exact HBF.drew
end Go.Proofs.YtjdglpcnkiioeaaGreat

/- The contract of segment.Copy; no conditions but the lengths. -/
namespace Go.Proofs.YtjdglpcnkiioeaaGreat
open Go.RowKit Go.Maps Go.Proofs.Own

theorem entRows_set (l : EntR) (j : Nat) (hj : j < l.length) (u : Value) : (entRows l).set j (((entRows l)[j]'(by rw [entRows_length]; exact hj)).set 2 u) = entRows (l.set j ((l[j]).1, u)) := by
  unfold entRows
  rw [List.map_set, List.getElem_map]
  rfl
/-- While copying: the rows at block g, the first j data new. -/
structure CpI (w wr : World) (g n c : Nat) (es : List EntS) (j : Nat) (el : EntR) : Prop where
  own : OwnL wr 38 3 (.slice (some ⟨g, 0, none⟩) n c) (entRows el)
  es : el.map (·.1) = es
  dat : Datas wr (fun _ => False) el
  new : ∀ i (h : i < el.length), i < j → ∀ b, (el[i]).2.ownBlock = some b → w.heap.size ≤ b
  bel : Below w.heap.size w wr

set_option maxHeartbeats 4000000 in
set_option maxRecDepth 20000 in
theorem gcopy_any (v : Value) (l : EntR) (w : World) (h : SRow w 3 v (entRows l)) (hd : Datas w (fun _ => False) l) (hl : l.length ≤ 2147483648) :
    Calls Tryz.prog 60 #[v] w fun e w' => ∃ v', e = .returned v' ∧ ∃ l', OwnL w' 38 3 v' (entRows l') ∧ l'.map (·.1) = l.map (·.1) ∧ Datas w' (fun k => k < w.heap.size) l' ∧ (∀ b, v'.ownBlock = some b → w.heap.size ≤ b) ∧ Below w.heap.size w w' := by
  have H := Lib.hid h
  have HD := Lib.hid hd
  have HL := Lib.hid hl
  obtain ⟨a, c, rfl, _⟩ := h.shape
  clear h hd
  go_enter Tryz.func60, Tryz.ntmps60
  go_wp2_with fail
  refine (eclone_any _ l w H.out HD.out HL.out).mono ?_
  rintro e w1 ⟨v1, rfl, ho1, hb1, hn1⟩
  have O1 := Lib.hid ho1
  have B1 := Lib.hid hb1
  have N1 := Lib.hid hn1
  have D1 : Hid (Datas w1 (fun _ => False) l) := Lib.hid (HD.out.kept (Kept.of_below hb1 (S := fun _ => False) fun k h1 h2 => by omega) fun _ h => h)
  obtain ⟨n, hn⟩ : ∃ n, l.length = n := ⟨_, rfl⟩
  have HN := Lib.hid hn
  obtain ⟨a1, c1, rfl, hc1⟩ := ho1.shape
  rw [entRows_length, hn] at O1 N1 hc1 ⊢
  have hn' : (n : Int) ≤ 2147483648 := by omega
  clear ho1 hb1 hn1 hl hn
  by_cases h0 : n = 0
  · have hl0 : l = [] := List.eq_nil_of_length_eq_zero (HN.out.trans h0)
    subst hl0
    have hn0 : (n : Int) = 0 := by omega
    have HZ := Lib.hid h0
    clear h0 hn'
    go_wp2_with fail
    refine wp_loop_rounds 1 ?_
    rw [rounds_succ]
    go_wp2_with fail
    go_ret
    exact ⟨_, rfl, [], by have h := O1.out; exact h, rfl, nofun, N1.out, B1.out⟩
  · obtain ⟨g, c', hv, hc, hg⟩ := OwnL.some O1.out (by intro e; have := congrArg List.length e; rw [entRows_length] at this; simp at this; exact h0 (by rw [← HN.out, this]; rfl))
    obtain ⟨hv1, hv2, hv3⟩ := Value.slice.inj hv
    subst hv1 hv3
    clear hv2
    have I0 : Hid (CpI w w1 g n c1 (l.map (·.1)) 0 l) := Lib.hid ⟨O1.out, rfl, D1.out, fun i _ h => absurd h (Nat.not_lt_zero i), B1.out⟩
    have NG : Hid (w.heap.size ≤ g) := Lib.hid (N1.out g rfl)
    clear h0 hv hc hg O1 N1 D1
    go_wp2_with fail
    go_loopw [4, 9] (fun _ y wr => ∃ (j : Nat) (el : EntR), j ≤ n ∧ y = .int .i64 j ∧ el.length = n ∧ CpI w wr g n c1 (l.map (·.1)) j el) (fun _ y _ => n - (intOf y).toNat)
    case atStart => exact ⟨0, l, Nat.zero_le _, rfl, HN.out, I0.out⟩
    case round =>
      obtain ⟨j, el, hj, rfl, hel, hI⟩ := hrel
      have HI := Lib.hid hI
      have HE := Lib.hid hel
      clear hI hel
      by_cases hlt : j < n
      · have hje : j < el.length := by rw [HE.out]; exact hlt
        obtain ⟨p, hp⟩ : ∃ p, el[j] = p := ⟨_, rfl⟩
        have hpm : p ∈ el := hp ▸ List.getElem_mem hje
        obtain ⟨hpB, hpf, _⟩ := HI.out.dat p hpm
        have HPB := Lib.hid hpB
        have HPF := Lib.hid hpf
        have q2 : wr.cell? ⟨g, j * 3 + 2, none⟩ = some p.2 := by
          have h1 := HI.out.own.flat (j * 3 + 2) p.2 (flatten_at HI.out.own.each (by rw [entRows_length]; exact hje) (by simp [entRows, hp, entRow]))
          rwa [Addr.add_lit, Nat.zero_add] at h1
        have f2 := OwnL.unfrozen HI.out.own (j * 3 + 2)
        obtain ⟨e0, pv⟩ := p
        simp only at q2 HPB
        obtain ⟨pa, pc, rfl, _⟩ := HPB.out.shape
        have HP := Lib.hid (show ∃ h : j < el.length, el[j] = (e0, Value.slice pa e0.d.length pc) from ⟨hje, hp⟩)
        have j0 : (0 : Int) ≤ (j : Int) := by omega
        have j1 : (j : Int) < (n : Int) := by omega
        have HDL : Hid ((ints e0.d).length ≤ 2097152) := Lib.hid (by rw [length_ints]; exact HPB.out.small)
        clear hp hpm hpB hpf hje
        go_wp2_with fail
        refine (bclone _ _ wr HPB.out.rd HDL.out).mono ?_
        rintro e w2 ⟨v2, rfl, ho2, hb2⟩
        have B2 := Lib.hid hb2
        have NB2 : Hid (∀ b, v2.ownBlock = some b → wr.heap.size ≤ b) := Lib.hid fun b hb => (ho2.lt b hb).1
        have HB2 : Hid (Bytes w2 v2 e0.d) := Lib.hid (Bytes.of_owns ho2 HPB.out.lt HPB.out.small)
        obtain ⟨a2, n2, c2, rfl⟩ : ∃ a n c, v2 = Value.slice a n c := by obtain ⟨a, c, e⟩ := ho2.shape; exact ⟨a, _, c, e⟩
        have OW2 := Lib.hid (HI.out.own.below hb2)
        have DW2 : Hid (Datas w2 (fun _ => False) el) := Lib.hid (HI.out.dat.kept (Kept.of_below hb2 (S := fun _ => False) fun k h1 h2 => by omega) fun _ h => h)
        have hgl : g < wr.heap.size := HI.out.own.lt g rfl
        have z2 : w2.cell? ⟨g, j * 3 + 2, none⟩ = some (.slice pa e0.d.length pc) := Below.at hb2 q2 hgl
        have y2 : w2.frozen? ⟨g, j * 3 + 2, none⟩ = false := by rw [hb2.frozen (p := ⟨g, j * 3 + 2, none⟩) hgl]; exact f2
        clear ho2 hb2 q2 f2
        go_wp2_with fail
        go_roundw
        case rel =>
          obtain ⟨hje, hp⟩ := HP.out
          have hk : Kept w2 (w2.setCell ⟨g, j * 3 + 2, none⟩ (.slice a2 n2 c2)) (fun k => k = g) := Kept.setCell w2 ⟨g, j * 3 + 2, none⟩ _
          have hnb : NoB w2 (fun k => k = g) := fun k hk2 => noB_own OW2.out k (by rw [hk2]; rfl)
          have hs := OW2.out.stored (k := j) (i := 2) (by rw [entRows_length]; exact hje) (by decide) (u := .slice a2 n2 c2) (fun x e => by cases e)
          rw [entRows_set el j hje, hp] at hs
          refine ⟨j + 1, el.set j (e0, .slice a2 n2 c2), by omega, by go_num, by rw [List.length_set]; exact HE.out, hs, ?_, ?_, ?_, ?_⟩
          · rw [List.map_set]
            have : (el.map (·.1))[j]'(by rw [List.length_map]; exact hje) = e0 := by rw [List.getElem_map, hp]
            conv => lhs; arg 3; rw [← this]
            rw [List.set_getElem_self]
            exact HI.out.es
          · intro q hq
            rcases List.mem_or_eq_of_mem_set hq with hq | rfl
            · obtain ⟨h1, h2, _⟩ := DW2.out q hq
              exact ⟨h1.keptN hk hnb, h2, fun _ _ h => h⟩
            · exact ⟨HB2.out.keptN hk hnb, HPF.out, fun _ _ h => h⟩
          · intro i hi hij b hb
            rw [List.length_set] at hi
            by_cases e : i = j
            · subst e
              rw [List.getElem_set_self] at hb
              exact Nat.le_trans HI.out.bel.size (NB2.out b hb)
            · rw [List.getElem_set_ne (fun h => e h.symm)] at hb
              exact HI.out.new i hi (by omega) b hb
          · exact (HI.out.bel.trans (B2.out.mono HI.out.bel.size)).setCell NG.out _
        case measure => simp [intOf]; omega
      · have z0 : ¬ (j : Int) < (n : Int) := by omega
        have hjn : j = n := by omega
        have HJN := Lib.hid hjn
        clear hjn hlt
        go_wp2_with fail
        go_ret
        refine ⟨_, rfl, el, HI.out.own, HI.out.es, fun q hq => ?_, fun b hb => by obtain rfl := Option.some.inj hb; exact NG.out, HI.out.bel⟩
        obtain ⟨h1, h2, _⟩ := HI.out.dat q hq
        refine ⟨h1, h2, fun b hb hlt => ?_⟩
        obtain ⟨i, hi, rfl⟩ := List.getElem_of_mem hq
        have := HI.out.new i hi (by rw [HJN.out, ← HE.out]; exact hi) b hb
        omega
end Go.Proofs.YtjdglpcnkiioeaaGreat
