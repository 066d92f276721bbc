/- Several texts in one: Vp, Vq, Vr, Vt, Vu, Vy, Vz. What each proves stands ahead of it. -/
import Derived.Test.YtofhccpagnkalaaGreatBunVd
import Derived.Test.YtofhccpagnkalaaGreatBunC
/- A torn frame: whole, or no frame; plain. -/
namespace Go.Proofs.YtofhccpagnkalaaGreat
open Go.RowKit Go.Maps Go.Proofs.Own

theorem split3 (q : List Nat) (h : 3 ≤ q.length) : ∃ A x y z, q = A ++ [x, y, z] ∧ A.length + 3 = q.length := by
  have h1 : (q.drop (q.length - 3)).length = 3 := by rw [List.length_drop]; omega
  match e : q.drop (q.length - 3), h1 with
  | [x, y, z], _ =>
    refine ⟨q.take (q.length - 3), x, y, z, ?_, by rw [List.length_take]; omega⟩
    rw [← e, List.take_append_drop]
theorem xorAt_app (A L : List Nat) (i v : Nat) : xorAt (A ++ L) (A.length + i) v = A ++ xorAt L i v := by
  unfold xorAt
  rw [getD_app, List.set_append_right (h := by omega), Nat.add_sub_cancel_left]
theorem tornTo3 (A : List Nat) (x y z t : Nat) : tornTo (A ++ [x, y, z]) t 3 = A ++ [x ^^^ (t / 2 ^ 16 % 256), y ^^^ (t / 2 ^ 8 % 256), z ^^^ (t / 2 ^ 0 % 256)] := by
  have hl : (A ++ [x, y, z]).length - 3 = A.length := by simp
  show xorAt (xorAt (xorAt (A ++ [x, y, z]) ((A ++ [x, y, z]).length - 3 + 0) (t / 2 ^ 16 % 256)) ((A ++ [x, y, z]).length - 3 + 1) (t / 2 ^ 8 % 256)) ((A ++ [x, y, z]).length - 3 + 2) (t / 2 ^ 0 % 256) = _
  rw [hl, xorAt_app, xorAt_app, xorAt_app]
  rfl
theorem be3_inj {a b c x y z : Nat} (hb : b < 256) (hc : c < 256) (hy : y < 256) (hz : z < 256) (h : be3 a b c = be3 x y z) : a = x ∧ b = y ∧ c = z := by
  unfold be3 at h
  omega
theorem getD_left (A B : List Nat) (j : Nat) (h : j < A.length) : (A ++ B).getD j 0 = A.getD j 0 := by
  rw [List.getD_eq_getElem?_getD, List.getD_eq_getElem?_getD, List.getElem?_append_left h]
theorem getD_at (A : List Nat) (x y z : Nat) : (A ++ [x, y, z]).getD A.length 0 = x ∧ (A ++ [x, y, z]).getD (A.length + 1) 0 = y ∧ (A ++ [x, y, z]).getD (A.length + 2) 0 = z := by
  have h := fun j => getD_app A [x, y, z] j
  exact ⟨by have := h 0; rwa [Nat.add_zero] at this, h 1, h 2⟩
/-- Whole or none: of a frame's loose bytes a crash leaves all as they were, or no frame. -/
theorem torn_frame {k : Nat} {l : List Nat} (hk : k ≠ 0) (hl : l.length ≤ 65536) (hb : ∀ c ∈ frP k l, c < 256) (t : Nat × Nat) (h : takeE (tornL (frP k l) t) = 0) : tornL (frP k l) t = frP k l := by
  have hF : (frP k l).length = l.length + 8 := length_frP k l
  have hN : frN (frP k l) = l.length := by have := frN_round k l []; rwa [List.append_nil] at this
  have hT : takeE (frP k l) = 0 := by have := takeE_round (k := k) (l := l) [] hk hl; rwa [List.append_nil] at this
  generalize frP k l = F at *
  obtain ⟨p, hp⟩ : ∃ p, t.1 % (F.length + 1) = p := ⟨_, rfl⟩
  have hple : p ≤ F.length := by rw [← hp]; exact Nat.le_of_lt_succ (Nat.mod_lt _ (by omega))
  have hq : (F.take p).length = p := by rw [List.length_take]; omega
  have hs0 : ∀ L : List Nat, takeE L = 0 → sizeE L = 0 := fun L g => by
    false_or_by_contra
    rename_i h2
    unfold takeE at g
    rw [if_pos h2] at g
    exact h2 g
  have hS := sizeE_len (hs0 _ h)
  unfold tornL at h hS ⊢
  rw [hp, hq] at h hS ⊢
  by_cases h3 : 3 ≤ p
  · rw [if_pos h3] at h hS ⊢
    rw [length_tornTo, hq] at hS
    obtain ⟨A, x, y, z, hA, hAl⟩ := split3 (F.take p) (by rw [hq]; exact h3)
    rw [hq] at hAl
    rw [hA, tornTo3] at h hS ⊢
    generalize hx : x ^^^ (t.2 / 2 ^ 16 % 256) = x' at *
    generalize hy : y ^^^ (t.2 / 2 ^ 8 % 256) = y' at *
    generalize hz : z ^^^ (t.2 / 2 ^ 0 % 256) = z' at *
    have hin : ∀ c ∈ F.take p, c < 256 := fun c hc => hb c (List.mem_of_mem_take hc)
    have bx : x < 256 := hin x (by rw [hA]; simp)
    have byy : y < 256 := hin y (by rw [hA]; simp)
    have bz : z < 256 := hin z (by rw [hA]; simp)
    have bx' : x' < 256 := by rw [← hx]; exact Nat.xor_lt_two_pow (n := 8) bx (Nat.mod_lt _ (by decide))
    have by' : y' < 256 := by rw [← hy]; exact Nat.xor_lt_two_pow (n := 8) byy (Nat.mod_lt _ (by decide))
    have bz' : z' < 256 := by rw [← hz]; exact Nat.xor_lt_two_pow (n := 8) bz (Nat.mod_lt _ (by decide))
    -- the five bytes ahead stay
    have hj : ∀ j, j < 5 → (A ++ [x', y', z']).getD j 0 = F.getD j 0 := by
      intro j hj
      have h8 : 8 ≤ p := by omega
      rw [getD_left _ _ _ (by omega), ← getD_left A [x, y, z] j (by omega), ← hA]
      rw [List.getD_eq_getElem?_getD, List.getD_eq_getElem?_getD, List.getElem?_take_of_lt (by omega)]
    have hN' : frN (A ++ [x', y', z']) = l.length := by
      rw [← hN]
      unfold frN
      rw [hj 2 (by omega), hj 3 (by omega), hj 4 (by omega)]
    rw [hN'] at hS
    have hpe : p = F.length := by omega
    have hFA : F = A ++ [x, y, z] := by rw [← hA, hpe, List.take_length]
    have hAl5 : A.length = l.length + 5 := by omega
    have sum : ∀ a b c : Nat, frN (A ++ [a, b, c]) = l.length → takeE (A ++ [a, b, c]) = 0 → sumP A = be3 a b c := by
      intro a b c hn ht
      have hs := hs0 _ ht
      unfold takeE at ht
      rw [if_neg (by simp [hs]), hn] at ht
      have hOk : SumOk (l.length + 5) ((A ++ [a, b, c]).take (l.length + 8)) := by
        false_or_by_contra
        rename_i h2
        rw [if_neg h2] at ht
        exact absurd ht (by decide)
      rw [List.take_of_length_le (by simp; omega)] at hOk
      unfold SumOk at hOk
      rw [← hAl5, List.take_left' rfl] at hOk
      obtain ⟨g0, g1, g2⟩ := getD_at A a b c
      rw [g0, g1, g2] at hOk
      exact hOk
    have s1 := sum x' y' z' hN' h
    have s2 := sum x y z (by rw [← hFA]; exact hN) (by rw [← hFA]; exact hT)
    obtain ⟨e1, e2, e3⟩ := be3_inj by' bz' byy bz (s1.symm.trans s2)
    rw [e1, e2, e3, hFA]
  · rw [if_neg h3] at hS
    rw [hq] at hS
    omega
end Go.Proofs.YtofhccpagnkalaaGreat

/- Whole frames one behind another, and what stands behind them; plain. -/
namespace Go.Proofs.YtofhccpagnkalaaGreat
open Go.RowKit Go.Maps Go.Proofs.Own

/-- l is whole frames; the state that they tell is t, v. -/
def Good (l : List Nat) (t v : Int) : Prop :=
  ∀ n r g0, (l ++ r).length ≤ n → ∃ m, r.length ≤ m ∧ lastF n (l ++ r) ⟨0, -1, g0⟩ = lastF m r ⟨t, v, g0 + l.length⟩
theorem Good.nil : Good [] 0 (-1) := fun n _ _ h => ⟨n, h, rfl⟩
theorem Good.snoc {l : List Nat} {t v : Int} (h : Good l t v) {a m : Nat} (ha : a ≤ 1152921504606846976) (hm : m ≤ 7) : Good (l ++ vowW a m) a ((m : Int) - 1) := by
  intro n r g0 hn
  have h8 := (vowW_len ha hm).2
  obtain ⟨k, h1, h2⟩ := h n (vowW a m ++ r) g0 (by rw [← List.append_assoc]; exact hn)
  rw [List.length_append] at h1
  obtain ⟨j, hj⟩ : ∃ j, k = j + 1 := ⟨k - 1, by omega⟩
  refine ⟨j, by omega, ?_⟩
  rw [List.append_assoc, h2, hj, lastF_round r j _ ha hm, List.length_append, Nat.add_assoc]
theorem Good.last {l : List Nat} {t v : Int} (h : Good l t v) : lastR l = ⟨t, v, l.length⟩ := by
  obtain ⟨m, _, h2⟩ := h l.length [] 0 (by rw [List.append_nil]; exact Nat.le_refl _)
  rw [List.append_nil, lastF_nil, Nat.zero_add] at h2
  exact h2
theorem Good.stop {l R : List Nat} {t v : Int} (h : Good l t v) (hR : takeE R ≠ 0) : lastR (l ++ R) = ⟨t, v, l.length⟩ := by
  obtain ⟨m, _, h2⟩ := h (l ++ R).length R 0 (Nat.le_refl _)
  rw [lastF_no (fun g => hR g.1), Nat.zero_add] at h2
  exact h2
/-- What a crash leaves of whole frames and a loose one: the frame whole, or nothing that is read. -/
theorem Good.torn {l : List Nat} {t v : Int} (h : Good l t v) {a m : Nat} (ha : a ≤ 1152921504606846976) (hm : m ≤ 7) (x : Nat × Nat) :
    tornL (vowW a m) x = vowW a m ∨ lastR (l ++ tornL (vowW a m) x) = ⟨t, v, l.length⟩ := by
  by_cases he : takeE (tornL (vowW a m) x) = 0
  · refine .inl (torn_frame (by decide) (by have := vowB_len ha hm; omega) ?_ x he)
    intro c hc
    unfold frP at hc
    refine sealP_lt ?_ c hc
    intro c hc
    have hl := vowB_len ha hm
    rcases List.mem_append.1 hc with hc | hc
    · simp only [List.mem_cons, List.not_mem_nil, or_false] at hc
      rcases hc with rfl | rfl | rfl | rfl | rfl <;> omega
    · exact numsW_lt [a, m] (vowB_lt ha hm) c hc
  · exact .inr (h.stop he)
end Go.Proofs.YtofhccpagnkalaaGreat

/- What is found among a disk's files behind a change and behind a crash; plain. -/
namespace Go.Proofs.YtofhccpagnkalaaGreat
open Go.RowKit Go.Maps Go.Proofs.Own

theorem find_cons_eq {n : ByteArray} {g : FileS} {L : List FileS} (h : g.name = n) : findFile n (g :: L) = some g := by
  unfold findFile
  rw [List.find?_cons_of_pos (by simpa using h)]
theorem find_cons_ne {n : ByteArray} {g : FileS} {L : List FileS} (h : ¬ g.name = n) : findFile n (g :: L) = findFile n L := by
  unfold findFile
  rw [List.find?_cons_of_neg (by simpa using h)]
theorem find_ins_ne {n : ByteArray} {f : FileS} (h : ¬ f.name = n) : ∀ L, findFile n (insFile f L) = findFile n L
  | [] => find_cons_ne h
  | g :: r => by
    unfold insFile
    split
    · exact find_cons_ne h
    · by_cases hg : g.name = n
      · rw [find_cons_eq hg, find_cons_eq hg]
      · rw [find_cons_ne hg, find_cons_ne hg, find_ins_ne h r]
theorem find_ins_eq {n : ByteArray} {f : FileS} (h : f.name = n) : ∀ L, (∀ g ∈ L, ¬ g.name = n) → findFile n (insFile f L) = some f
  | [], _ => find_cons_eq h
  | g :: r, hd => by
    unfold insFile
    split
    · exact find_cons_eq h
    · rw [find_cons_ne (hd g List.mem_cons_self)]
      exact find_ins_eq h r fun x hx => hd x (List.mem_cons_of_mem _ hx)
theorem find_none {n : ByteArray} {L : List FileS} (h : ∀ g ∈ L, ¬ g.name = n) : findFile n L = none := by
  unfold findFile
  rw [List.find?_eq_none]
  intro g hg
  simpa using h g hg
theorem find_del_eq (n : ByteArray) (L : List FileS) : findFile n (delFile n L) = none := find_none fun _g hg => (mem_del.1 hg).2
theorem find_del_ne {n m : ByteArray} (h : ¬ m = n) : ∀ L, findFile n (delFile m L) = findFile n L
  | [] => rfl
  | g :: r => by
    have ih := find_del_ne h r
    unfold delFile at ih ⊢
    by_cases hg : g.name = m
    · rw [List.filter_cons_of_neg (by simp [hg]), ih, find_cons_ne (by rw [hg]; exact h)]
    · rw [List.filter_cons_of_pos (by simp [hg])]
      by_cases hn : g.name = n
      · rw [find_cons_eq hn, find_cons_eq hn]
      · rw [find_cons_ne hn, find_cons_ne hn, ih]
theorem find_put_eq (f : FileS) (L : List FileS) : findFile f.name (putFile f L) = some f := find_ins_eq rfl _ fun _g hg => (mem_del.1 hg).2
theorem find_put_ne {n : ByteArray} {f : FileS} (h : ¬ f.name = n) (L : List FileS) : findFile n (putFile f L) = findFile n L := (find_ins_ne h _).trans (find_del_ne h L)

theorem crash1_name {f g : FileS} {ts : List (Nat × Nat)} (h : g ∈ crash1 f ts) : g.name = f.name := by
  unfold crash1 at h
  split at h
  · split at h
    · cases h
    · obtain rfl := List.mem_singleton.1 h; rfl
  · split at h
    · cases h
    · obtain rfl := List.mem_singleton.1 h; rfl
theorem crashL_name {g : FileS} : ∀ {L : List FileS} {ts : List (Nat × Nat)}, g ∈ crashL L ts → ∃ f ∈ L, g.name = f.name
  | [], _, h => by cases h
  | f :: r, ts, h => by
    rcases List.mem_append.1 h with h | h
    · exact ⟨f, List.mem_cons_self, crash1_name h⟩
    · obtain ⟨x, h1, h2⟩ := crashL_name h
      exact ⟨x, List.mem_cons_of_mem _ h1, h2⟩
theorem find_app_none {n : ByteArray} {A B : List FileS} (h : ∀ g ∈ A, ¬ g.name = n) : findFile n (A ++ B) = findFile n B := by
  unfold findFile
  rw [List.find?_append, List.find?_eq_none.2 (fun g hg => by simpa using h g hg)]
  rfl
/-- A file behind a crash is what the crash leaves of it, by some tear. -/
theorem find_crash (n : ByteArray) : ∀ (L : List FileS) (ts : List (Nat × Nat)), L.Pairwise (fun a b => ¬ b.name = a.name) → ∃ us, findFile n (crashL L ts) = (findFile n L).bind fun f => (crash1 f us).head?
  | [], ts, _ => ⟨[], rfl⟩
  | f :: r, ts, hp => by
    obtain ⟨h1, h2⟩ := List.pairwise_cons.1 hp
    by_cases hn : f.name = n
    · refine ⟨ts, ?_⟩
      rw [find_cons_eq hn]
      show findFile n (crash1 f ts ++ crashL r (tears1 f ts)) = (crash1 f ts).head?
      match e : crash1 f ts with
      | [] =>
        rw [List.nil_append]
        refine find_none fun g hg => ?_
        obtain ⟨x, hx, e2⟩ := crashL_name hg
        rw [e2, ← hn]
        exact h1 x hx
      | g :: t =>
        have hg : g.name = n := (crash1_name (f := f) (ts := ts) (by rw [e]; exact List.mem_cons_self)).trans hn
        exact find_cons_eq hg
    · obtain ⟨us, hu⟩ := find_crash n r (tears1 f ts) h2
      refine ⟨us, ?_⟩
      rw [find_cons_ne hn, ← hu]
      exact find_app_none fun g hg => by rw [crash1_name hg]; exact hn
theorem Rising.apart {L : List FileS} (h : Rising L) : L.Pairwise (fun a b => ¬ b.name = a.name) := h.imp fun hl => (nameLt_ne hl).symm
/-- The bytes l that are kept, and F that are loose, behind a crash. -/
theorem getF_crash {D : DiskS} {n : ByteArray} {l F : List Nat} (ts : List (Nat × Nat)) (hr : Rising D.files) (hf : getF D n = ⟨n, l ++ F, l.length⟩) :
    ∃ x, getF (crashD D ts) n = ⟨n, l ++ (if F = [] then [] else tornL F x), (l ++ (if F = [] then [] else tornL F x)).length⟩ := by
  obtain ⟨us, hu⟩ := find_crash n D.files ts hr.apart
  refine ⟨us.headD (0, 0), ?_⟩
  have hu' : findFile n (crashD D ts).files = (findFile n D.files).bind fun f => (crash1 f us).head? := hu
  cases e : findFile n D.files with
  | none =>
    rw [getF_none e] at hf
    have h1 : l ++ F = [] := (FileS.mk.inj hf).2.1.symm
    obtain ⟨rfl, rfl⟩ := List.append_eq_nil_iff.1 h1
    rw [e] at hu'
    rw [getF_none hu']
    rfl
  | some f =>
    rw [getF_some e] at hf
    subst hf
    rw [e] at hu'
    have hu2 : findFile n (crashD D ts).files = (crash1 ⟨n, l ++ F, l.length⟩ us).head? := hu'
    by_cases hF : F = []
    · subst hF
      rw [if_pos rfl]
      rw [List.append_nil] at hu2 ⊢
      unfold crash1 at hu2
      rw [if_neg (Nat.lt_irrefl _)] at hu2
      by_cases hl : l = []
      · subst hl
        rw [if_pos rfl] at hu2
        rw [getF_none hu2]
        rfl
      · rw [if_neg hl] at hu2
        exact getF_some hu2
    · rw [if_neg hF]
      have hp : 0 < F.length := List.length_pos_iff.2 hF
      unfold crash1 at hu2
      simp only [List.length_append, List.take_left', List.drop_left'] at hu2
      rw [if_pos (by omega)] at hu2
      by_cases hn : l ++ tornL F (us.headD (0, 0)) = []
      · rw [if_pos hn] at hu2
        rw [getF_none hu2, hn]
        rfl
      · rw [if_neg hn] at hu2
        rw [getF_some hu2]
        simp
end Go.Proofs.YtofhccpagnkalaaGreat

/- What Open makes of the vow's file behind a crash; plain. -/
namespace Go.Proofs.YtofhccpagnkalaaGreat
open Go.RowKit Go.Maps Go.Proofs.Own

/-- The disk has power, and none is about to go. -/
def Calm (D : DiskS) : Prop := D.down = false ∧ D.armed = -1
theorem Calm.step {D : DiskS} (h : Calm D) (L : List FileS) : Calm { stepD D with files := L } := by
  unfold Calm stepD
  rw [if_neg (by rw [h.2]; decide), if_neg (by rw [h.2]; decide)]
  exact h
theorem getF_of_find {D D' : DiskS} {n : ByteArray} (h : findFile n D'.files = findFile n D.files) : getF D' n = getF D n := by unfold getF; rw [h]
theorem nVow_ne : ¬ nVowN = nVow := by decide
theorem gone_calm {D : DiskS} (h : Calm D) : (vgoneD D nVowN).2 = 0 ∧ Calm (vgoneD D nVowN).1 ∧ getF (vgoneD D nVowN).1 nVow = getF D nVow := by
  cases e : findFile nVowN D.files with
  | none =>
    have h31 : fileE D nVowN = 31 := by unfold fileE; rw [if_neg (by rw [h.1]; decide), if_pos e]
    have hr : removeD D nVowN = (D, 31) := by unfold removeD; rw [e]; simp only; rw [h31]
    unfold vgoneD
    rw [hr]
    exact ⟨rfl, h, rfl⟩
  | some f =>
    have hr : removeD D nVowN = ({ stepD D with files := delFile nVowN D.files }, 0) := by
      unfold removeD
      rw [e]
      simp only
      rw [if_neg (by rw [h.1]; decide), if_neg (by rw [h.2]; decide)]
    unfold vgoneD
    rw [hr]
    exact ⟨rfl, h.step _, getF_of_find (find_del_ne nVow_ne _)⟩
theorem sync_calm {D : DiskS} (h : Calm D) {n : ByteArray} {f : FileS} (hf : findFile n D.files = some f) : (syncD D n).2 = 0 ∧ Calm (syncD D n).1 ∧ getF (syncD D n).1 n = ⟨n, f.all, f.all.length⟩ := by
  obtain ⟨hn, _⟩ := find_name hf
  subst hn
  have hr : syncD D f.name = ({ stepD D with files := putFile { f with kept := f.all.length } D.files }, 0) := by
    unfold syncD
    rw [hf]
    simp only
    rw [if_neg (by rw [h.1]; decide), if_neg (by rw [h.2]; decide)]
  rw [hr]
  exact ⟨rfl, h.step _, getF_some (find_put_eq { f with kept := f.all.length } D.files)⟩
theorem cut_calm {D : DiskS} (h : Calm D) {n : ByteArray} {f : FileS} (hf : findFile n D.files = some f) (k : Nat) (hk : k ≤ f.all.length) :
    (cutD D n k).2 = 0 ∧ Calm (cutD D n k).1 ∧ findFile n (cutD D n k).1.files = some ⟨n, f.all.take k, min f.kept k⟩ := by
  obtain ⟨hn, _⟩ := find_name hf
  subst hn
  have hr : cutD D f.name k = ({ stepD D with files := putFile ⟨f.name, f.all.take k, min f.kept k⟩ D.files }, 0) := by
    unfold cutD
    rw [hf]
    simp only
    rw [if_neg (by rw [h.1]; decide), if_neg (by omega), if_neg (by rw [h.2]; decide), Int.toNat_natCast]
  rw [hr]
  exact ⟨rfl, h.step _, find_put_eq ⟨f.name, f.all.take k, min f.kept k⟩ D.files⟩

/-- The vow's file is whole frames, all kept, and tells t, v. -/
def VFile (D : DiskS) (t v : Int) : Prop := ∃ l, getF D nVow = ⟨nVow, l, l.length⟩ ∧ Good l t v
/-- Open, where the power stays: the state of the whole frames; what stands behind them is cut. -/
theorem open_calm {D : DiskS} (h : Calm D) {l X : List Nat} {t v : Int} (hl : Good l t v) (hf : getF D nVow = ⟨nVow, l ++ X, (l ++ X).length⟩) (hX : lastR (l ++ X) = ⟨t, v, l.length⟩) :
    (vopenD D).2 = 0 ∧ (vopenS D).t = t ∧ (vopenS D).v = v ∧ Calm (vopenD D).1 ∧ VFile (vopenD D).1 t v := by
  obtain ⟨g1, g2, g3⟩ := gone_calm h
  unfold vopenD vopenS
  rw [if_neg (by rw [g1]; decide)]
  generalize (vgoneD D nVowN).1 = E at *
  rw [hf] at g3
  cases e : findFile nVow E.files with
  | none =>
    have h31 : fileE E nVow = 31 := by unfold fileE; rw [if_neg (by rw [g2.1]; decide), if_pos e]
    rw [getF_none e] at g3
    have h1 : l ++ X = [] := (FileS.mk.inj g3).2.1.symm
    obtain ⟨rfl, rfl⟩ := List.append_eq_nil_iff.1 h1
    have h0 : lastR ([] : List Nat) = ⟨0, -1, 0⟩ := lastF_nil _ _
    rw [List.append_nil, h0] at hX
    obtain ⟨rfl, rfl, _⟩ := LastS.mk.inj hX
    unfold settleD settleS
    rw [if_pos h31, if_pos h31]
    exact ⟨rfl, rfl, rfl, g2, [], getF_none e, Good.nil⟩
  | some f =>
    have hE0 : fileE E nVow = 0 := by unfold fileE; rw [if_neg (by rw [g2.1]; decide), if_neg (by rw [e]; simp)]
    have hG := g3
    rw [getF_some e] at hG
    subst hG
    have hS : settleS E = ⟨t, v, l.length⟩ := by
      unfold settleS
      rw [hE0, if_neg (by decide), if_neg (by decide), g3]
      exact hX
    have hD : settleD E = if (settle1 E).2 ≠ 0 then settle1 E else syncD (settle1 E).1 nVow := by
      unfold settleD
      rw [hE0, if_neg (by decide), if_neg (by decide)]
    have hD1 : settle1 E = if l.length < (l ++ X).length then cutD E nVow l.length else (E, 0) := by
      unfold settle1
      rw [g3, hX]
    rw [hS]
    refine ⟨?_, rfl, rfl, ?_⟩
    all_goals
      rw [hD, hD1]
      by_cases hlt : l.length < (l ++ X).length
      · rw [if_pos hlt]
        obtain ⟨c1, c2, c3⟩ := cut_calm g2 e l.length (Nat.le_of_lt hlt)
        rw [if_neg (by rw [c1]; decide)]
        obtain ⟨s1, s2, s3⟩ := sync_calm c2 c3
        simp only [List.take_left'] at s3
        first | exact s1 | exact ⟨s2, l, s3, hl⟩
      · rw [if_neg hlt, if_neg (fun g => g rfl)]
        have hX0 : X = [] := by
          rw [List.length_append] at hlt
          exact List.length_eq_zero_iff.1 (by omega)
        subst hX0
        obtain ⟨s1, s2, s3⟩ := sync_calm g2 e
        rw [List.append_nil] at s3
        first | exact s1 | exact ⟨s2, l, s3, hl⟩
end Go.Proofs.YtofhccpagnkalaaGreat

/- What a write of the vow leaves of its file, well or not; plain. -/
namespace Go.Proofs.YtofhccpagnkalaaGreat
open Go.RowKit Go.Maps Go.Proofs.Own

theorem stepD_down {D : DiskS} (hd : D.down = false) : (stepD D).down = true ↔ D.armed = 0 := by
  unfold stepD
  by_cases h : D.armed = 0
  · rw [if_pos h]; simp [h]
  · rw [if_neg h]
    split <;> simp [h, hd]
theorem stepD_up {D : DiskS} (hd : D.down = false) (ha : ¬ D.armed = 0) : (stepD D).down = false := by
  have := (not_congr (stepD_down hd)).2 ha
  simpa using this
/-- What a write has left: nothing told, all told, or the power gone between. -/
structure WrPost (n : ByteArray) (r : DiskS × Nat) (l b : List Nat) : Prop where
  ok : r.2 = 0 → r.1.down = false ∧ getF r.1 n = ⟨n, l ++ b, (l ++ b).length⟩
  no : r.2 ≠ 0 → r.1.down = false → getF r.1 n = ⟨n, l, l.length⟩
  gone : r.1.down = true → getF r.1 n = ⟨n, l, l.length⟩ ∨ getF r.1 n = ⟨n, l ++ b, l.length⟩
theorem wr_short {n : ByteArray} {D : DiskS} (hd : D.down = false) {l : List Nat} (hf : getF D n = ⟨n, l, l.length⟩) (b : List Nat) : WrPost n (wrTo D n b) l b := by
  unfold wrTo appendD
  by_cases ha : appE D n b ≠ 0
  · rw [if_pos ha, if_pos ha]
    refine ⟨fun h => absurd h ha, fun _ _ => hf, fun h => ?_⟩
    simp only [hd] at h; cases h
  · rw [if_neg ha]
    have hdn : (appD D n b).down = false := hd
    have har : (appD D n b).armed = D.armed := rfl
    have hfd : findFile n (stepD (appD D n b)).files = some ⟨n, l ++ b, l.length⟩ := by
      rw [stepD_files]
      unfold appD
      rw [hf]
      exact find_put_eq ⟨n, l ++ b, l.length⟩ D.files
    by_cases h0 : D.armed = 0
    · have he : stepE D = 50 := if_pos h0
      have hdw : (stepD (appD D n b)).down = true := (stepD_down hdn).2 (har.trans h0)
      rw [he, if_pos (by simp)]
      refine ⟨fun h => ?_, fun _ h => ?_, fun _ => Or.inr (getF_some hfd)⟩
      · simp at h
      · simp only [hdw] at h; cases h
    · have he : stepE D = 0 := if_neg h0
      rw [he, if_neg (by simp)]
      have hup : (stepD (appD D n b)).down = false := stepD_up hdn (by rw [har]; exact h0)
      generalize stepD (appD D n b) = E at *
      unfold syncD
      simp only [hfd]
      rw [if_neg (by rw [hup]; decide)]
      by_cases h1 : E.armed = 0
      · rw [if_pos h1]
        have hdw : (stepD E).down = true := (stepD_down hup).2 h1
        have hg : getF (stepD E) n = ⟨n, l ++ b, l.length⟩ := by unfold getF; rw [stepD_files, hfd]; rfl
        refine ⟨fun h => ?_, fun _ h => ?_, fun _ => Or.inr hg⟩
        · simp at h
        · simp only [hdw] at h; cases h
      · rw [if_neg h1]
        have hdw : (stepD E).down = false := stepD_up hup h1
        refine ⟨fun _ => ⟨hdw, getF_some (find_put_eq ⟨n, l ++ b, (l ++ b).length⟩ E.files)⟩, fun h => absurd rfl h, fun h => ?_⟩
        simp only [hdw] at h; cases h
theorem find_of_getF {D : DiskS} {n : ByteArray} {b : List Nat} {k : Nat} (h : getF D n = ⟨n, b, k⟩) (hb : b ≠ []) : findFile n D.files = some ⟨n, b, k⟩ := by
  cases e : findFile n D.files with
  | none => rw [getF_none e] at h; exact absurd (FileS.mk.inj h).2.1.symm hb
  | some f => rw [getF_some e] at h; rw [h]
theorem wrTo_apart {D : DiskS} {n m : ByteArray} (b : List Nat) (h : ¬ n = m) : getF (wrTo D n b).1 m = getF D m := by
  have ha : getF (appendD D n b).1 m = getF D m := by
    unfold appendD
    split
    · rfl
    · refine getF_of_find ?_
      rw [stepD_files]
      unfold appD
      exact find_put_ne (by simp only; rw [getF_name]; exact h) D.files
  unfold wrTo
  split
  · exact ha
  · rw [← ha]
    generalize (appendD D n b).1 = E
    unfold syncD
    cases e : findFile n E.files with
    | none => rfl
    | some f =>
      simp only
      split
      · rfl
      · split
        · exact getF_of_find (by rw [stepD_files])
        · refine getF_of_find (find_put_ne ?_ E.files)
          simp only
          rw [(find_name e).1]
          exact h
/-- What the long way has left: the new frame alone has taken the file's place, or the file is as it was. -/
structure WrPost2 (r : DiskS × Nat) (l b : List Nat) : Prop where
  ok : r.2 = 0 → r.1.down = false ∧ getF r.1 nVow = ⟨nVow, b, b.length⟩
  no : r.2 ≠ 0 → getF r.1 nVow = ⟨nVow, l, l.length⟩
theorem wr_long {D : DiskS} (hd : D.down = false) (hn : findFile nVowN D.files = none) {l b : List Nat} (hf : getF D nVow = ⟨nVow, l, l.length⟩) (hb : b ≠ []) : WrPost2 (vwrite2 D b) l b := by
  have hs := wr_short (n := nVowN) hd (l := []) (getF_none hn) b
  have hap := wrTo_apart (n := nVowN) (m := nVow) (D := D) b nVow_ne
  rw [hf] at hap
  unfold vwrite2
  generalize wrTo D nVowN b = r at *
  obtain ⟨E, e⟩ := r
  by_cases he : e = 0
  · subst he
    rw [if_neg (by simp)]
    obtain ⟨h1, h2⟩ := hs.ok rfl
    simp only [List.nil_append] at h1 h2 hap ⊢
    have h3 := find_of_getF h2 hb
    unfold moveD
    rw [h3]
    simp only
    rw [if_neg (by rw [h1]; decide), if_neg (by decide)]
    by_cases ha : E.armed = 0
    · rw [if_pos ha]
      refine ⟨fun h => ?_, fun _ => ?_⟩
      · simp at h
      · exact (getF_of_find (by rw [stepD_files])).trans hap
    · rw [if_neg ha]
      exact ⟨fun _ => ⟨stepD_up h1 ha, getF_some (find_put_eq ⟨nVow, b, b.length⟩ _)⟩, fun h => absurd rfl h⟩
  · rw [if_pos he]
    exact ⟨fun h => absurd h he, fun _ => hap⟩
theorem gone_law {D : DiskS} (hd : D.down = false) : getF (vgoneD D nVowN).1 nVow = getF D nVow ∧ ((vgoneD D nVowN).2 = 0 → (vgoneD D nVowN).1.down = false ∧ findFile nVowN (vgoneD D nVowN).1.files = none) := by
  cases e : findFile nVowN D.files with
  | none =>
    have h31 : fileE D nVowN = 31 := by unfold fileE; rw [if_neg (by rw [hd]; decide), if_pos e]
    have hr : removeD D nVowN = (D, 31) := by unfold removeD; rw [e]; simp only; rw [h31]
    unfold vgoneD
    rw [hr]
    exact ⟨rfl, fun _ => ⟨hd, e⟩⟩
  | some f =>
    by_cases ha : D.armed = 0
    · have hr : removeD D nVowN = (stepD D, 50) := by
        unfold removeD
        rw [e]
        simp only
        rw [if_neg (by rw [hd]; decide), if_pos ha]
      unfold vgoneD
      rw [hr]
      refine ⟨getF_of_find (by rw [stepD_files]), fun h => ?_⟩
      simp at h
    · have hr : removeD D nVowN = ({ stepD D with files := delFile nVowN D.files }, 0) := by
        unfold removeD
        rw [e]
        simp only
        rw [if_neg (by rw [hd]; decide), if_neg ha]
      unfold vgoneD
      rw [hr]
      exact ⟨getF_of_find (find_del_ne nVow_ne _), fun _ => ⟨stepD_up hd ha, find_del_eq _ _⟩⟩
/-- What the vow's write leaves of its file. -/
structure VWPost (r : DiskS × Nat) (l b : List Nat) : Prop where
  ok : r.2 = 0 → r.1.down = false ∧ (getF r.1 nVow = ⟨nVow, l ++ b, (l ++ b).length⟩ ∨ getF r.1 nVow = ⟨nVow, b, b.length⟩)
  no : r.2 ≠ 0 → r.1.down = false → getF r.1 nVow = ⟨nVow, l, l.length⟩
  gone : r.1.down = true → getF r.1 nVow = ⟨nVow, l, l.length⟩ ∨ getF r.1 nVow = ⟨nVow, l ++ b, l.length⟩
theorem vwrite_law {D : DiskS} (hd : D.down = false) {l b : List Nat} (hf : getF D nVow = ⟨nVow, l, l.length⟩) (hb : b ≠ []) : VWPost (vwriteD D b) l b := by
  unfold vwriteD
  rw [if_neg (by rw [hd]; decide)]
  by_cases hl : (getF D nVow).all.length < 256
  · rw [if_pos hl]
    have h := wr_short hd hf b
    exact ⟨fun e => ⟨(h.ok e).1, .inl (h.ok e).2⟩, h.no, h.gone⟩
  · rw [if_neg hl]
    obtain ⟨g1, g2⟩ := gone_law hd
    rw [hf] at g1
    generalize vgoneD D nVowN = r at *
    by_cases he : r.2 = 0
    · rw [if_neg (fun h => h he)]
      obtain ⟨h1, h2⟩ := g2 he
      have h := wr_long h1 h2 g1 hb
      refine ⟨fun e => ⟨(h.ok e).1, .inr (h.ok e).2⟩, fun e _ => h.no e, fun e => .inl (h.no fun e0 => ?_)⟩
      have h3 := (h.ok e0).1
      rw [h3] at e
      cases e
    · rw [if_pos he]
      exact ⟨fun h => absurd h he, fun _ _ => g1, fun _ => .inl g1⟩
end Go.Proofs.YtofhccpagnkalaaGreat

/- What Keep leaves of the vow's file, and what is told behind a crash; plain. -/
namespace Go.Proofs.YtofhccpagnkalaaGreat
open Go.RowKit Go.Maps Go.Proofs.Own

/-- What a crash may meet: whole frames of t, v, all kept; behind them, perhaps, a loose frame of t', v'. -/
def VLoose (D : DiskS) (t v t' v' : Int) : Prop :=
  ∃ l, Good l t v ∧ (getF D nVow = ⟨nVow, l, l.length⟩ ∨ ∃ a m : Nat, a ≤ 1152921504606846976 ∧ m ≤ 7 ∧ t' = a ∧ v' = (m : Int) - 1 ∧ getF D nVow = ⟨nVow, l ++ vowW a m, l.length⟩)
theorem keep_law {D : DiskS} (hd : D.down = false) {t v : Int} (hf : VFile D t v) (t' v' : Int) (ht : 0 ≤ t') :
    ((keepD D t v t' v').2 = 0 → (keepD D t v t' v').1.down = false ∧ VFile (keepD D t v t' v').1 t' v') ∧
    ((keepD D t v t' v').2 ≠ 0 → (keepD D t v t' v').1.down = false → VFile (keepD D t v t' v').1 t v) ∧
    ((keepD D t v t' v').1.down = true → VLoose (keepD D t v t' v').1 t v t' v' ∧ vMy t v t' v' = true) := by
  obtain ⟨l, h1, h2⟩ := hf
  unfold keepD
  by_cases hs : vSnd t' v' = false
  · rw [if_pos hs]
    exact ⟨fun h => by simp at h, fun _ _ => ⟨l, h1, h2⟩, fun h => by simp only [hd] at h; cases h⟩
  · rw [if_neg hs]
    by_cases hm : vMy t v t' v' = false
    · rw [if_pos hm]
      exact ⟨fun h => by simp at h, fun _ _ => ⟨l, h1, h2⟩, fun h => by simp only [hd] at h; cases h⟩
    · rw [if_neg hm]
      by_cases he : t' = t ∧ v' = v
      · rw [if_pos he]
        obtain ⟨rfl, rfl⟩ := he
        exact ⟨fun _ => ⟨hd, l, h1, h2⟩, fun h => absurd rfl h, fun h => by simp only [hd] at h; cases h⟩
      · rw [if_neg he]
        have hs' : vSnd t' v' = true := by simpa using hs
        unfold vSnd at hs'
        simp only [Bool.and_eq_true, decide_eq_true_eq] at hs'
        have ha : t'.toNat ≤ 1152921504606846976 := by omega
        have hm7 : (v' + 1).toNat ≤ 7 := by omega
        have e1 : t' = (t'.toNat : Int) := by omega
        have e2 : v' = ((v' + 1).toNat : Int) - 1 := by omega
        have hb : vowW t'.toNat (v' + 1).toNat ≠ [] := fun h => by have := (vowW_len ha hm7).2; rw [h] at this; simp at this
        have h := vwrite_law hd h1 hb
        show (_ ∧ _ ∧ _)
        change VWPost (vwriteD D (frP 3 (numsW [t'.toNat, (v' + 1).toNat]))) l (vowW t'.toNat (v' + 1).toNat) at h
        refine ⟨fun e => ⟨(h.ok e).1, ?_⟩, fun e hd' => ⟨l, h.no e hd', h2⟩, fun hd' => ⟨⟨l, h2, ?_⟩, by simpa using hm⟩⟩
        · rcases (h.ok e).2 with g | g
          · have := h2.snoc ha hm7
            rw [← e1, ← e2] at this
            exact ⟨_, g, this⟩
          · have := Good.nil.snoc ha hm7
            rw [← e1, ← e2, List.nil_append] at this
            exact ⟨_, g, this⟩
        · exact (h.gone hd').imp id fun g => ⟨_, _, ha, hm7, e1, e2, g⟩
/-- Behind a crash, the power and Open: the state is the old one or the one that was being kept. -/
theorem crash_law {D : DiskS} {t v t' v' : Int} (hr : Rising D.files) (h : VLoose D t v t' v') (ts : List (Nat × Nat)) :
    (vopenD (bootD (crashD D ts))).2 = 0 ∧ Calm (vopenD (bootD (crashD D ts))).1 ∧ ∃ p q, ((p = t ∧ q = v) ∨ (p = t' ∧ q = v')) ∧ (vopenS (bootD (crashD D ts))).t = p ∧ (vopenS (bootD (crashD D ts))).v = q ∧ VFile (vopenD (bootD (crashD D ts))).1 p q := by
  have hc : Calm (bootD (crashD D ts)) := ⟨rfl, rfl⟩
  obtain ⟨l, hl, hk | ⟨a, m, ha, hm, rfl, rfl, hk⟩⟩ := h
  · obtain ⟨x, hx⟩ := getF_crash (F := []) ts hr (by rw [List.append_nil]; exact hk)
    rw [if_pos rfl] at hx
    have hx' : getF (bootD (crashD D ts)) nVow = ⟨nVow, l ++ [], (l ++ []).length⟩ := hx
    obtain ⟨o1, o2, o3, o4, o5⟩ := open_calm hc hl hx' (by rw [List.append_nil]; exact hl.last)
    exact ⟨o1, o4, t, v, .inl ⟨rfl, rfl⟩, o2, o3, o5⟩
  · have hb : vowW a m ≠ [] := fun h => by have := (vowW_len ha hm).2; rw [h] at this; simp at this
    obtain ⟨x, hx⟩ := getF_crash (F := vowW a m) ts hr hk
    rw [if_neg hb] at hx
    have hx' : getF (bootD (crashD D ts)) nVow = ⟨nVow, l ++ tornL (vowW a m) x, (l ++ tornL (vowW a m) x).length⟩ := hx
    rcases hl.torn ha hm x with e | e
    · rw [e] at hx'
      have hg := hl.snoc ha hm
      obtain ⟨o1, o2, o3, o4, o5⟩ := open_calm (X := []) hc hg (by rw [List.append_nil]; exact hx') (by rw [List.append_nil]; exact hg.last)
      exact ⟨o1, o4, _, _, .inr ⟨rfl, rfl⟩, o2, o3, o5⟩
    · obtain ⟨o1, o2, o3, o4, o5⟩ := open_calm hc hl hx' e
      exact ⟨o1, o4, t, v, .inl ⟨rfl, rfl⟩, o2, o3, o5⟩
end Go.Proofs.YtofhccpagnkalaaGreat

/- What a crash, Boot, Arm and Resize keep of a disk's bounds; that the power's end is told; plain. -/
namespace Go.Proofs.YtofhccpagnkalaaGreat
open Go.RowKit Go.Maps Go.Proofs.Own

theorem total_app (A B : List FileS) : total (A ++ B) = total A + total B := by simp [total]
theorem crash1_fits {f : FileS} (ts : List (Nat × Nat)) (hf : f.kept ≤ f.all.length) : total (crash1 f ts) ≤ f.all.length ∧ ∀ g ∈ crash1 f ts, g.name = f.name ∧ g.kept ≤ g.all.length := by
  refine ⟨?_, fun g hg => ⟨crash1_name hg, ?_⟩⟩
  · unfold crash1
    split
    · split
      · simp [total]
      · have := length_tornL (f.all.drop f.kept) (ts.headD (0, 0))
        rw [List.length_drop] at this
        rw [total_cons]
        simp only [total, List.map_nil, List.sum_nil, List.length_append, List.length_take]
        omega
    · split
      · simp [total]
      · rw [total_cons]
        simp [total]
  · unfold crash1 at hg
    split at hg
    · split at hg
      · cases hg
      · obtain rfl := List.mem_singleton.1 hg; exact Nat.le_refl _
    · split at hg
      · cases hg
      · obtain rfl := List.mem_singleton.1 hg; exact hf
theorem crashL_fits : ∀ (L : List FileS) (ts : List (Nat × Nat)), (∀ f ∈ L, f.name.size ≤ 16 ∧ f.kept ≤ f.all.length) → total (crashL L ts) ≤ total L ∧ ∀ g ∈ crashL L ts, g.name.size ≤ 16 ∧ g.kept ≤ g.all.length
  | [], _, _ => ⟨Nat.le_refl _, nofun⟩
  | f :: r, ts, h => by
    obtain ⟨h1, h2⟩ := crash1_fits ts (h f List.mem_cons_self).2
    obtain ⟨h3, h4⟩ := crashL_fits r (tears1 f ts) fun g hg => h g (List.mem_cons_of_mem _ hg)
    refine ⟨?_, fun g hg => ?_⟩
    · show total (crash1 f ts ++ crashL r (tears1 f ts)) ≤ _
      rw [total_app, total_cons]
      omega
    · rcases List.mem_append.1 hg with hg | hg
      · obtain ⟨e1, e2⟩ := h2 g hg
        exact ⟨by rw [e1]; exact (h f List.mem_cons_self).1, e2⟩
      · exact h4 g hg
theorem DGood.crash {D : DiskS} (h : DGood D) (ts : List (Nat × Nat)) : DGood (crashD D ts) := by
  obtain ⟨h1, h2⟩ := crashL_fits D.files ts h.wf.each
  have h3 := length_crashL D.files ts
  have h4 := h.tot
  have h5 := h.few
  exact ⟨⟨h.wf.room0, h.wf.room1, by show (-1 : Int) ≤ -1; decide, by show (-1 : Int) ≤ _; decide, h.wf.steps0, h.wf.steps1, by show (crashL D.files ts).length ≤ _; omega, h2⟩, by show total (crashL D.files ts) ≤ _; omega, by show (crashL D.files ts).length ≤ _; omega⟩
theorem DGood.boot {D : DiskS} (h : DGood D) : DGood (bootD D) :=
  ⟨⟨h.wf.room0, h.wf.room1, by show (-1 : Int) ≤ -1; decide, by show (-1 : Int) ≤ _; decide, h.wf.steps0, h.wf.steps1, h.wf.many, h.wf.each⟩, h.tot, h.few⟩
theorem DGood.arm {D : DiskS} (h : DGood D) (n : Int) (hn : n ≤ 9223372036854775807) : DGood (armD D n).1 := by
  unfold armD
  split
  · exact h
  · split
    · exact h
    · exact ⟨⟨h.wf.room0, h.wf.room1, by simp only; omega, hn, h.wf.steps0, h.wf.steps1, h.wf.many, h.wf.each⟩, h.tot, h.few⟩
theorem DGood.resize {D : DiskS} (h : DGood D) (n : Int) : DGood (resizeD D n).1 := by
  unfold resizeD
  split
  · exact h
  · split
    · exact h
    · exact ⟨⟨by simp only; omega, by simp only; omega, h.wf.armed0, h.wf.armed1, h.wf.steps0, h.wf.steps1, h.wf.many, h.wf.each⟩, h.tot, h.few⟩
theorem armD_same (D : DiskS) (n : Int) : (armD D n).1.files = D.files ∧ (armD D n).1.down = D.down ∧ (armD D n).1.steps = D.steps := by
  unfold armD
  split
  · exact ⟨rfl, rfl, rfl⟩
  · split <;> exact ⟨rfl, rfl, rfl⟩
theorem resizeD_same (D : DiskS) (n : Int) : (resizeD D n).1.files = D.files ∧ (resizeD D n).1.down = D.down ∧ (resizeD D n).1.steps = D.steps := by
  unfold resizeD
  split
  · exact ⟨rfl, rfl, rfl⟩
  · split <;> exact ⟨rfl, rfl, rfl⟩
theorem getF_files {D D' : DiskS} (h : D'.files = D.files) (n : ByteArray) : getF D' n = getF D n := by unfold getF; rw [h]
theorem VFile.files {D D' : DiskS} {t v : Int} (h : VFile D t v) (he : D'.files = D.files) : VFile D' t v := by
  obtain ⟨l, h1, h2⟩ := h
  exact ⟨l, by rw [getF_files he]; exact h1, h2⟩
theorem VFile.empty {D : DiskS} (h : D.files = []) : VFile D 0 (-1) := ⟨[], getF_none (by rw [h]; rfl), Good.nil⟩
theorem VFile.crash {D : DiskS} {t v : Int} (h : VFile D t v) (hr : Rising D.files) (ts : List (Nat × Nat)) : VFile (crashD D ts) t v := by
  obtain ⟨l, h1, h2⟩ := h
  obtain ⟨x, hx⟩ := getF_crash (F := []) ts hr (by rw [List.append_nil]; exact h1)
  rw [if_pos rfl, List.append_nil] at hx
  exact ⟨l, hx, h2⟩
theorem VFile.loose {D : DiskS} {t v : Int} (h : VFile D t v) (t' v' : Int) : VLoose D t v t' v' := let ⟨l, h1, h2⟩ := h; ⟨l, h2, .inl h1⟩

/-- Where the power goes at a call, the call tells it. -/
def Fell (r : DiskS × Nat) : Prop := r.1.down = true → r.2 = 50
theorem Fell.up {r : DiskS × Nat} (h : Fell r) (he : r.2 = 0) : r.1.down = false := by
  cases e : r.1.down with
  | false => rfl
  | true => have := h e; omega
theorem Fell.same {D : DiskS} (hd : D.down = false) (e : Nat) : Fell (D, e) := fun h => by simp only [hd] at h; cases h
theorem Fell.step {D : DiskS} (hd : D.down = false) : Fell (stepD D, stepE D) := fun h => by
  have := (stepD_down hd).1 h
  exact if_pos this
theorem fell_append {D : DiskS} (hd : D.down = false) (n : ByteArray) (b : List Nat) : Fell (appendD D n b) := by
  unfold appendD
  split
  · exact Fell.same hd _
  · have : stepE D = stepE (appD D n b) := rfl
    rw [this]
    exact Fell.step (D := appD D n b) hd
theorem fell_files {D : DiskS} (hd : D.down = false) (ha : ¬ D.armed = 0) (L : List FileS) : Fell ({ stepD D with files := L }, 0) := fun h => by
  have h' : (stepD D).down = true := h
  rw [stepD_up hd ha] at h'
  cases h'
theorem fell_sync {D : DiskS} (hd : D.down = false) (n : ByteArray) : Fell (syncD D n) := by
  unfold syncD
  split
  · rw [if_neg (by rw [hd]; decide)]
    split
    · exact fun _ => rfl
    · rename_i ha; exact fell_files hd ha _
  · exact Fell.same hd _
theorem fell_remove {D : DiskS} (hd : D.down = false) (n : ByteArray) : Fell (removeD D n) := by
  unfold removeD
  split
  · rw [if_neg (by rw [hd]; decide)]
    split
    · exact fun _ => rfl
    · rename_i ha; exact fell_files hd ha _
  · exact Fell.same hd _
theorem fell_move {D : DiskS} (hd : D.down = false) (n to : ByteArray) : Fell (moveD D n to) := by
  unfold moveD
  split
  · rw [if_neg (by rw [hd]; decide)]
    split
    · exact Fell.same hd _
    · split
      · exact fun _ => rfl
      · rename_i ha; exact fell_files hd ha _
  · exact Fell.same hd _
theorem fell_gone {D : DiskS} (hd : D.down = false) (n : ByteArray) : Fell (vgoneD D n) := fun h => by
  have := fell_remove hd n h
  show (if (removeD D n).2 = 31 then 0 else (removeD D n).2) = 50
  rw [this]
  rfl
theorem fell_wrTo {D : DiskS} (hd : D.down = false) (n : ByteArray) (b : List Nat) : Fell (wrTo D n b) := by
  have h := fell_append hd n b
  unfold wrTo
  split
  · exact h
  · rename_i he
    exact fell_sync (h.up (by simpa using he)) n
theorem fell_write {D : DiskS} (hd : D.down = false) (b : List Nat) : Fell (vwriteD D b) := by
  unfold vwriteD
  rw [if_neg (by rw [hd]; decide)]
  split
  · exact fell_wrTo hd nVow b
  · have h := fell_gone hd nVowN
    split
    · exact h
    · rename_i he
      have h2 := fell_wrTo (h.up (by simpa using he)) nVowN b
      unfold vwrite2
      split
      · exact h2
      · rename_i he2
        exact fell_move (h2.up (by simpa using he2)) nVowN nVow
theorem fell_keep {D : DiskS} (hd : D.down = false) (t v t' v' : Int) : Fell (keepD D t v t' v') := by
  unfold keepD
  split
  · exact Fell.same hd _
  · split
    · exact Fell.same hd _
    · split
      · exact Fell.same hd _
      · exact fell_write hd _
theorem keepD_may {D : DiskS} {t v t' v' : Int} (h : (keepD D t v t' v').2 = 0) : vMy t v t' v' = true := by
  unfold keepD at h
  split at h
  · simp at h
  · split at h
    · simp at h
    · rename_i hm; simpa using hm
end Go.Proofs.YtofhccpagnkalaaGreat
