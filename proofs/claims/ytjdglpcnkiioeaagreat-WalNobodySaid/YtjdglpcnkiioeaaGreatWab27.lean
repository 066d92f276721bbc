/- Several texts in one: Vl0, Pg, Vr, Vt, Wm, Lg, Lh, Li, Sgc, Vu, Wi, Wj, Wk, Wn, Wo, Vz. What each proves stands ahead of it; together they serve wkeeps_law_holds,wfiles_law_holds,wnobody_law_holds. No conditions but those stated. -/
import Derived.Laws.EntriesVeiled
import Derived.Lib.SlBytesConst
import Derived.Test.YtjdglpcnkiioeaaGreatWab23
import Derived.Test.YtjdglpcnkiioeaaGreatWab18
import Derived.Test.YtjdglpcnkiioeaaGreatWab11
import Derived.Test.YtjdglpcnkiioeaaGreatWab16
import Derived.Test.YtjdglpcnkiioeaaGreatWab24
import Derived.Test.YtjdglpcnkiioeaaGreatWab7
import Derived.Test.YtjdglpcnkiioeaaGreatWab6
/- The disks of the vow's example, and what is told of one frame; plain. -/
namespace Go.Proofs.YtjdglpcnkiioeaaGreat
open Go.RowKit Go.Maps Go.Proofs.Own Go.Shelf

theorem frNx_round (k : Nat) (l r : List Nat) : frNx (frP k l ++ r) = r := by
  unfold frNx
  rw [frN_round, ← length_frP k l, List.drop_left]
end Go.Proofs.YtjdglpcnkiioeaaGreat

/- A log's pieces: entries, their lines, what is read of a file's bytes: plain definitions and laws; no program in sight. -/
namespace Go.Proofs.YtjdglpcnkiioeaaGreat
open Go.RowKit Go.Maps Go.Proofs.Own Go.Shelf

/-- An entry. -/
structure EntS where
  t : Int
  k : Int
  d : List Nat
/-- A sound one. -/
def EntS.ok (e : EntS) : Prop := 1 ≤ e.t ∧ e.t ≤ 1152921504606846976 ∧ 1 ≤ e.k ∧ e.k ≤ 3 ∧ e.d.length ≤ 4096
instance (e : EntS) : Decidable e.ok := inferInstanceAs (Decidable (_ ∧ _))
def M64 : Nat := 18446744073709551615
/-- What a line holds. -/
def lineB (i : Nat) (e : EntS) : List Nat := numsW [i, e.t.toNat, e.k.toNat] ++ (numW e.d.length ++ e.d)
def lineW (i : Nat) (e : EntS) : List Nat := frP 2 (lineB i e)
def headW (n : Nat) : List Nat := frP 1 (numW n)
/-- The lines of entries from an index on. -/
def linesW (i : Nat) : List EntS → List Nat
  | [] => []
  | e :: es => lineW i e ++ linesW (i + 1) es
/-- What a head's frame tells. -/
def hdV (l : List Nat) : Nat := numV H60 (frBody l)
def hdE (l : List Nat) : Nat := endE (numL H60 (frBody l)) (numB H60 (frBody l))
def hdGo (l : List Nat) : Prop := takeE l = 0 ∧ l.getD 1 0 = 1 ∧ hdE l = 0 ∧ hdV l ≠ 0
instance (l : List Nat) : Decidable (hdGo l) := inferInstanceAs (Decidable (_ ∧ _))
/-- What a line's frame tells. -/
def lnR1 (l : List Nat) : List Nat := numL M64 (frBody l)
def lnR2 (l : List Nat) : List Nat := numL H60 (lnR1 l)
def lnR3 (l : List Nat) : List Nat := numL 3 (lnR2 l)
def lnI (l : List Nat) : Nat := numV M64 (frBody l)
def lnX (l : List Nat) : EntS := ⟨numV H60 (lnR1 l), numV 3 (lnR2 l), textV 4096 (lnR3 l)⟩
def lnE (l : List Nat) : Nat := endE (textL 4096 (lnR3 l)) (((numB M64 (frBody l) || numB H60 (lnR1 l)) || numB 3 (lnR2 l)) || textB 4096 (lnR3 l))
def lnGo (i : Nat) (l : List Nat) : Prop := takeE l = 0 ∧ l.getD 1 0 = 2 ∧ lnE l = 0 ∧ lnI l = i ∧ (lnX l).ok
instance (i : Nat) (l : List Nat) : Decidable (lnGo i l) := inferInstanceAs (Decidable (_ ∧ _))
/-- What was read: the first index, the entries, how many bytes are good. -/
structure SegS where
  f : Nat
  es : List EntS
  g : Nat
def segF : Nat → List Nat → SegS → SegS
  | 0, _, s => s
  | n + 1, l, s =>
    if s.f = 0 then (if hdGo l then segF n (frNx l) ⟨hdV l, s.es, s.g + (frBody l).length + 8⟩ else s)
    else (if lnGo (s.f + s.es.length) l then segF n (frNx l) ⟨s.f, s.es ++ [lnX l], s.g + (frBody l).length + 8⟩ else s)
def segR (l : List Nat) : SegS := segF l.length l ⟨0, [], 0⟩
theorem segF_no {l : List Nat} {s : SegS} (h0 : s.f = 0 → ¬ hdGo l) (h1 : s.f ≠ 0 → ¬ lnGo (s.f + s.es.length) l) (n : Nat) : segF n l s = s := by
  cases n with
  | zero => rfl
  | succ n =>
    unfold segF
    by_cases h : s.f = 0
    · rw [if_pos h, if_neg (h0 h)]
    · rw [if_neg h, if_neg (h1 h)]
theorem segF_stop {l : List Nat} {s : SegS} (h : takeE l ≠ 0) (n : Nat) : segF n l s = s := segF_no (fun _ g => h g.1) (fun _ g => h g.1) n
theorem segF_head {l : List Nat} {s : SegS} (h0 : s.f = 0) (h : hdGo l) (n : Nat) : segF (n + 1) l s = segF n (frNx l) ⟨hdV l, s.es, s.g + (frBody l).length + 8⟩ := by
  show (if s.f = 0 then _ else _) = _
  rw [if_pos h0, if_pos h]
theorem segF_line {l : List Nat} {s : SegS} (h0 : s.f ≠ 0) (h : lnGo (s.f + s.es.length) l) (n : Nat) : segF (n + 1) l s = segF n (frNx l) ⟨s.f, s.es ++ [lnX l], s.g + (frBody l).length + 8⟩ := by
  show (if s.f = 0 then _ else _) = _
  rw [if_neg h0, if_pos h]
theorem lt64 {n : Nat} (h : n ≤ M64) : (n : Int) < 18446744073709551616 := by unfold M64 at h; omega
/-- A head is read back. -/
theorem head_round {n : Nat} (r : List Nat) (h1 : 1 ≤ n) (h2 : n ≤ 1152921504606846976) : hdGo (headW n ++ r) ∧ hdV (headW n ++ r) = n ∧ frNx (headW n ++ r) = r ∧ (frBody (headW n ++ r)).length + 8 = (headW n).length := by
  have hn : (n : Int) < 18446744073709551616 := by omega
  have hb : frBody (headW n ++ r) = numW n ++ [] := by unfold headW; rw [frBody_round, List.append_nil]
  have hl := numW_len hn
  have hv : hdV (headW n ++ r) = n := by unfold hdV; rw [hb]; exact numV_round _ hn h2
  refine ⟨⟨takeE_round r (by decide) (by omega), kind_round 1 _ r, ?_, by rw [hv]; omega⟩, hv, frNx_round _ _ _, by unfold headW; rw [frBody_round, length_frP]⟩
  unfold hdE
  rw [hb, numL_round (most := H60) [] hn h2, numB_round (most := H60) [] hn h2]
  rfl
theorem lineB_len {i : Nat} {e : EntS} (hi : i ≤ M64) (h : e.ok) : (lineB i e).length ≤ 4132 := by
  obtain ⟨h1, h2, h3, h4, h5⟩ := h
  have a := numsW_len [i, e.t.toNat, e.k.toNat] (by
    intro x hx
    simp only [List.mem_cons, List.not_mem_nil, or_false] at hx
    rcases hx with rfl | rfl | rfl
    · exact lt64 hi
    · omega
    · omega)
  have b := numW_len (n := e.d.length) (by omega)
  unfold lineB
  rw [List.length_append, List.length_append]
  simp at a
  omega
theorem lineW_len {i : Nat} {e : EntS} (hi : i ≤ M64) (h : e.ok) : (lineW i e).length ≤ 4140 ∧ 8 ≤ (lineW i e).length := by
  have := lineB_len hi h
  unfold lineW
  rw [length_frP]
  omega
/-- A line is read back. -/
theorem line_round {i : Nat} {e : EntS} (r : List Nat) (hi : i ≤ M64) (h : e.ok) : lnGo i (lineW i e ++ r) ∧ lnX (lineW i e ++ r) = e ∧ frNx (lineW i e ++ r) = r ∧ (frBody (lineW i e ++ r)).length + 8 = (lineW i e).length := by
  have hl := lineB_len hi h
  have hok := h
  obtain ⟨h1, h2, h3, h4, h5⟩ := h
  have hb : frBody (lineW i e ++ r) = numW i ++ (numW e.t.toNat ++ (numW e.k.toNat ++ (numW e.d.length ++ (e.d ++ [])))) := by
    unfold lineW
    rw [frBody_round]
    simp [lineB, numsW]
  have i64 := lt64 hi
  have t64 : (e.t.toNat : Int) < 18446744073709551616 := by omega
  have k64 : (e.k.toNat : Int) < 18446744073709551616 := by omega
  have t60 : e.t.toNat ≤ H60 := by unfold H60; omega
  have k3 : e.k.toNat ≤ 3 := by omega
  have r1 : lnR1 (lineW i e ++ r) = numW e.t.toNat ++ (numW e.k.toNat ++ (numW e.d.length ++ (e.d ++ []))) := by unfold lnR1; rw [hb]; exact numL_round _ i64 hi
  have r2 : lnR2 (lineW i e ++ r) = numW e.k.toNat ++ (numW e.d.length ++ (e.d ++ [])) := by unfold lnR2; rw [r1]; exact numL_round _ t64 t60
  have r3 : lnR3 (lineW i e ++ r) = numW e.d.length ++ (e.d ++ []) := by unfold lnR3; rw [r2]; exact numL_round _ k64 k3
  have hx : lnX (lineW i e ++ r) = e := by
    unfold lnX
    rw [r1, r2, r3, numV_round _ t64 t60, numV_round _ k64 k3, textV_round e.d [] h5 (by decide)]
    obtain ⟨t, k, d⟩ := e
    simp only at h1 h3 ⊢
    rw [show ((t.toNat : Nat) : Int) = t by omega, show ((k.toNat : Nat) : Int) = k by omega]
  refine ⟨⟨takeE_round r (by decide) (by omega), kind_round 2 _ r, ?_, ?_, by rw [hx]; exact hok⟩, hx, frNx_round _ _ _, by unfold lineW; rw [frBody_round, length_frP]⟩
  · unfold lnE
    rw [r1, r2, r3, hb, numB_round _ i64 hi, numB_round _ t64 t60, numB_round _ k64 k3, textB_round e.d [] h5 (by decide), textL_round e.d [] h5 (by decide)]
    rfl
  · unfold lnI
    rw [hb]
    exact numV_round _ i64 hi
theorem segF_lines {f : Nat} (hf : f ≠ 0) : ∀ (ms es : List EntS) (r : List Nat) (n g : Nat), (∀ e ∈ ms, e.ok) → f + es.length + ms.length ≤ M64 → (linesW (f + es.length) ms ++ r).length ≤ n →
    ∃ m, r.length ≤ m ∧ segF n (linesW (f + es.length) ms ++ r) ⟨f, es, g⟩ = segF m r ⟨f, es ++ ms, g + (linesW (f + es.length) ms).length⟩
  | [], es, r, n, g, _, _, hn => ⟨n, hn, by simp [linesW]⟩
  | e :: ms, es, r, n, g, hok, hb, hn => by
    have he := hok e (List.mem_cons_self ..)
    have hi : f + es.length ≤ M64 := by simp only [List.length_cons] at hb; omega
    obtain ⟨g1, g2, g3, g4⟩ := line_round (i := f + es.length) (linesW (f + es.length + 1) ms ++ r) hi he
    have h8 := (lineW_len hi he).2
    have hcat : linesW (f + es.length) (e :: ms) ++ r = lineW (f + es.length) e ++ (linesW (f + es.length + 1) ms ++ r) := by
      show (lineW (f + es.length) e ++ linesW (f + es.length + 1) ms) ++ r = _
      rw [List.append_assoc]
    rw [hcat] at hn ⊢
    obtain ⟨j, hj⟩ : ∃ j, n = j + 1 := ⟨n - 1, by rw [List.length_append] at hn; omega⟩
    subst hj
    have hl1 : f + (es ++ [e]).length = f + es.length + 1 := by rw [List.length_append]; rfl
    obtain ⟨m, h1, h2⟩ := segF_lines hf ms (es ++ [e]) r j (g + (lineW (f + es.length) e).length) (fun x hx => hok x (List.mem_cons_of_mem _ hx)) (by rw [hl1]; simp only [List.length_cons] at hb; omega) (by rw [hl1]; rw [List.length_append] at hn; omega)
    rw [hl1] at h2
    refine ⟨m, h1, ?_⟩
    rw [segF_line (s := ⟨f, es, g⟩) hf g1 j, g2, g3]
    have hg : g + (frBody (lineW (f + es.length) e ++ (linesW (f + es.length + 1) ms ++ r))).length + 8 = g + (lineW (f + es.length) e).length := by omega
    simp only
    rw [hg, h2]
    have hlen : (linesW (f + es.length) (e :: ms)).length = (lineW (f + es.length) e).length + (linesW (f + es.length + 1) ms).length := by
      show (lineW (f + es.length) e ++ linesW (f + es.length + 1) ms).length = _
      rw [List.length_append]
    rw [hlen, List.append_assoc, List.singleton_append, Nat.add_assoc]
/-- A piece's bytes, and what is read of them. -/
def segW (f : Nat) (es : List EntS) : List Nat := headW f ++ linesW f es
theorem seg_round {f : Nat} {es : List EntS} (hf : 1 ≤ f) (hf2 : f ≤ 1152921504606846976) (hok : ∀ e ∈ es, e.ok) (hb : f + es.length ≤ M64) (r : List Nat) :
    ∃ m, r.length ≤ m ∧ segR (segW f es ++ r) = segF m r ⟨f, es, (segW f es).length⟩ := by
  obtain ⟨g1, g2, g3, g4⟩ := head_round (linesW f es ++ r) hf hf2
  have hcat : segW f es ++ r = headW f ++ (linesW f es ++ r) := by unfold segW; rw [List.append_assoc]
  have hl : 8 ≤ (headW f).length := by unfold headW; rw [length_frP]; omega
  unfold segR
  rw [hcat]
  obtain ⟨j, hj⟩ : ∃ j, (headW f ++ (linesW f es ++ r)).length = j + 1 := ⟨(headW f ++ (linesW f es ++ r)).length - 1, by rw [List.length_append]; omega⟩
  rw [hj, segF_head (s := ⟨0, [], 0⟩) rfl g1 j, g2, g3]
  have hg : 0 + (frBody (headW f ++ (linesW f es ++ r))).length + 8 = (headW f).length := by omega
  simp only
  rw [hg]
  obtain ⟨m, h1, h2⟩ := segF_lines (f := f) (by omega) es [] r j (headW f).length hok (by simpa using hb) (by rw [List.length_append] at hj; simp only [List.length_nil, Nat.add_zero]; omega)
  simp only [List.length_nil, Nat.add_zero, List.nil_append] at h2
  refine ⟨m, h1, ?_⟩
  rw [h2]
  unfold segW
  rw [List.length_append]
theorem segR_stop {f : Nat} {es : List EntS} (hf : 1 ≤ f) (hf2 : f ≤ 1152921504606846976) (hok : ∀ e ∈ es, e.ok) (hb : f + es.length ≤ M64) {R : List Nat} (hR : takeE R ≠ 0) : segR (segW f es ++ R) = ⟨f, es, (segW f es).length⟩ := by
  obtain ⟨m, _, h⟩ := seg_round hf hf2 hok hb R
  rw [h, segF_stop hR]
end Go.Proofs.YtjdglpcnkiioeaaGreat

/- What is found among a disk's files behind a change and behind a crash; plain. -/
namespace Go.Proofs.YtjdglpcnkiioeaaGreat
open Go.RowKit Go.Maps Go.Proofs.Own

theorem find_none {n : ByteArray} {L : List FileS} (h : ∀ g ∈ L, ¬ g.name = n) : findFile n L = none := by
  unfold findFile
  rw [List.find?_eq_none]
  intro g hg
  simpa using h g hg
theorem crash1_name {f g : FileS} {ts : List (Nat × Nat)} (h : g ∈ crash1 f ts) : g.name = f.name := by
  unfold crash1 at h
  split at h
  · split at h
    · cases h
    · obtain rfl := List.mem_singleton.1 h; rfl
  · split at h
    · cases h
    · obtain rfl := List.mem_singleton.1 h; rfl
theorem crashL_name {g : FileS} : ∀ {L : List FileS} {ts : List (Nat × Nat)}, g ∈ crashL L ts → ∃ f ∈ L, g.name = f.name
  | [], _, h => by cases h
  | f :: r, ts, h => by
    rcases List.mem_append.1 h with h | h
    · exact ⟨f, List.mem_cons_self, crash1_name h⟩
    · obtain ⟨x, h1, h2⟩ := crashL_name h
      exact ⟨x, List.mem_cons_of_mem _ h1, h2⟩
theorem Rising.apart {L : List FileS} (h : Rising L) : L.Pairwise (fun a b => ¬ b.name = a.name) := h.imp fun hl => (nameLt_ne hl).symm
end Go.Proofs.YtjdglpcnkiioeaaGreat

/- What Open makes of the vow's file behind a crash; plain. -/
namespace Go.Proofs.YtjdglpcnkiioeaaGreat
open Go.RowKit Go.Maps Go.Proofs.Own

/-- The disk has power, and none is about to go. -/
def Calm (D : DiskS) : Prop := D.down = false ∧ D.armed = -1
theorem Calm.step {D : DiskS} (h : Calm D) (L : List FileS) : Calm { stepD D with files := L } := by
  unfold Calm stepD
  rw [if_neg (by rw [h.2]; decide), if_neg (by rw [h.2]; decide)]
  exact h
end Go.Proofs.YtjdglpcnkiioeaaGreat

/- A log on a disk: its calls, each by one function; and the files of a disk that are a log's; plain. -/
namespace Go.Proofs.YtjdglpcnkiioeaaGreat
open Go.RowKit Go.Maps Go.Proofs.Own Go.Shelf

/-- A log's file: its first index, how many entries, how many bytes. -/
structure WF where
  f : Nat
  m : Nat
  s : Nat
/-- A log: its base, its entries, its files, how many entries are safe. -/
structure WalS where
  b : Nat
  es : List EntS
  fs : List WF
  safe : Nat
def WalS.last (L : WalS) : Nat := L.b + L.es.length
/-- How many entries more there may be. -/
def leftW (n : Nat) : Nat := (((H59 : Int) - n) % 18446744073709551616).toNat
/-- The last file goes. -/
def popW (D : DiskS) (L : WalS) : DiskS × WalS × Nat :=
  match L.fs.getLast? with
  | none => (D, L, 0)
  | some f => if (removeD D (nameW f.f)).2 ≠ 0 then ((removeD D (nameW f.f)).1, L, (removeD D (nameW f.f)).2)
    else ((removeD D (nameW f.f)).1, ⟨L.b, L.es.take (L.es.length - f.m), L.fs.dropLast, min L.safe (L.es.length - f.m)⟩, 0)
def resetF (base : Nat) : Nat → DiskS → WalS → DiskS × WalS × Nat
  | 0, D, _ => (D, ⟨base, [], [], 0⟩, 0)
  | n + 1, D, L => if L.fs = [] then (D, ⟨base, [], [], 0⟩, 0) else if (popW D L).2.2 ≠ 0 then popW D L else resetF base n (popW D L).1 (popW D L).2.1
def resetW (D : DiskS) (L : WalS) (base : Nat) : DiskS × WalS × Nat := if H59 ≤ base then (D, L, 2) else resetF base L.fs.length D L
def syncW (D : DiskS) (L : WalS) : DiskS × WalS × Nat :=
  if L.safe = L.es.length then (D, L, 0) else match L.fs.getLast? with
    | none => (D, L, 0)
    | some f => if (syncD D (nameW f.f)).2 ≠ 0 then ((syncD D (nameW f.f)).1, L, (syncD D (nameW f.f)).2) else ((syncD D (nameW f.f)).1, { L with safe := L.es.length }, 0)
/-- Entries behind the last file's. -/
def addW (D : DiskS) (L : WalS) (f : WF) (ms : List EntS) : DiskS × WalS × Nat :=
  if (appendD D (nameW f.f) (linesW (L.last + 1) ms)).2 ≠ 0 then ((appendD D (nameW f.f) (linesW (L.last + 1) ms)).1, L, (appendD D (nameW f.f) (linesW (L.last + 1) ms)).2)
  else ((appendD D (nameW f.f) (linesW (L.last + 1) ms)).1, ⟨L.b, L.es ++ ms, L.fs.dropLast ++ [⟨f.f, f.m + ms.length, f.s + (linesW (L.last + 1) ms).length⟩], L.safe⟩, 0)
/-- .. in a new file. -/
def newW (D : DiskS) (L : WalS) (ms : List EntS) : DiskS × WalS × Nat :=
  if (syncW D L).2.2 ≠ 0 then syncW D L
  else if (appendD (syncW D L).1 (nameW (L.last + 1)) (segW (L.last + 1) ms)).2 ≠ 0 then ((appendD (syncW D L).1 (nameW (L.last + 1)) (segW (L.last + 1) ms)).1, (syncW D L).2.1, (appendD (syncW D L).1 (nameW (L.last + 1)) (segW (L.last + 1) ms)).2)
  else ((appendD (syncW D L).1 (nameW (L.last + 1)) (segW (L.last + 1) ms)).1, ⟨L.b, L.es ++ ms, L.fs ++ [⟨L.last + 1, ms.length, (segW (L.last + 1) ms).length⟩], (syncW D L).2.1.safe⟩, 0)
def appendW (D : DiskS) (L : WalS) (ms : List EntS) : DiskS × WalS × Nat :=
  if ¬ (∀ e ∈ ms, e.ok) then (D, L, 2) else if leftW L.last < ms.length then (D, L, 10) else if ms = [] then (D, L, 0)
  else match L.fs.getLast? with
    | none => newW D L ms
    | some f => if f.s < 1024 then addW D L f ms else newW D L ms
def cutF (frm : Nat) : Nat → DiskS → WalS → DiskS × WalS × Nat
  | 0, D, L => (D, L, 0)
  | n + 1, D, L => match L.fs.getLast? with
    | none => (D, L, 0)
    | some f => if f.f < frm then (D, L, 0) else if (popW D L).2.2 ≠ 0 then popW D L else cutF frm n (popW D L).1 (popW D L).2.1
/-- The last file is cut. -/
def cutL (D : DiskS) (L : WalS) (frm : Nat) : DiskS × WalS × Nat :=
  match L.fs.getLast? with
  | none => (D, L, 0)
  | some f =>
    let size := (headW f.f).length + (linesW f.f ((L.es.drop (f.f - L.b - 1)).take (frm - f.f))).length
    if (cutD D (nameW f.f) size).2 ≠ 0 then ((cutD D (nameW f.f) size).1, L, (cutD D (nameW f.f) size).2)
    else ((cutD D (nameW f.f) size).1, ⟨L.b, L.es.take (frm - L.b - 1), L.fs.dropLast ++ [⟨f.f, frm - f.f, size⟩], min L.safe (frm - L.b - 1)⟩, 0)
def cutW (D : DiskS) (L : WalS) (frm : Nat) : DiskS × WalS × Nat :=
  if frm ≤ L.b ∨ L.last + 1 < frm then (D, L, 2)
  else if (cutF frm L.fs.length D L).2.2 ≠ 0 then cutF frm L.fs.length D L
  else if (cutF frm L.fs.length D L).2.1.last < frm then ((cutF frm L.fs.length D L).1, (cutF frm L.fs.length D L).2.1, 0)
  else cutL (cutF frm L.fs.length D L).1 (cutF frm L.fs.length D L).2.1 frm
def dropF (upto : Nat) : Nat → DiskS → WalS → DiskS × WalS × Nat
  | 0, D, L => (D, L, 0)
  | n + 1, D, L => match L.fs with
    | f :: g :: r => if g.f ≤ upto + 1 then
        (if (removeD D (nameW f.f)).2 ≠ 0 then ((removeD D (nameW f.f)).1, L, (removeD D (nameW f.f)).2)
         else dropF upto n (removeD D (nameW f.f)).1 ⟨L.b + f.m, L.es.drop f.m, g :: r, L.safe - f.m⟩)
      else (D, L, 0)
    | _ => (D, L, 0)
def dropW (D : DiskS) (L : WalS) (upto : Nat) : DiskS × WalS × Nat := if L.last < upto then (D, L, 2) else dropF upto L.fs.length D L
/-- A file is read: is it a piece, the log with it, an error. -/
def takeW (L : WalS) (first : Nat) (b : List Nat) (last : Bool) : Bool × WalS × Nat :=
  if (segR b).f ≠ first ∧ last = true then (false, L, 0)
  else if (segR b).f ≠ first ∨ (last = false ∧ (segR b).g ≠ b.length) ∨ (L.fs ≠ [] ∧ first ≠ L.last + 1) then (true, L, 20)
  else (true, ⟨if L.fs = [] then first - 1 else L.b, L.es ++ (segR b).es, L.fs ++ [⟨first, (segR b).es.length, (segR b).g⟩], L.safe⟩, 0)
def loadW : List ByteArray → DiskS → WalS → DiskS × WalS × Nat
  | [], D, L => (D, L, 0)
  | n :: r, D, L =>
    if fileE D n ≠ 0 then (D, L, fileE D n)
    else if (takeW L (firstN (natsOf n)) (getF D n).all (decide (r = []))).1 = false then
      (if (removeD D n).2 ≠ 0 then ((removeD D n).1, (takeW L (firstN (natsOf n)) (getF D n).all (decide (r = []))).2.1, (removeD D n).2)
       else loadW r (removeD D n).1 (takeW L (firstN (natsOf n)) (getF D n).all (decide (r = []))).2.1)
    else if (takeW L (firstN (natsOf n)) (getF D n).all (decide (r = []))).2.2 ≠ 0 then (D, (takeW L (firstN (natsOf n)) (getF D n).all (decide (r = []))).2.1, (takeW L (firstN (natsOf n)) (getF D n).all (decide (r = []))).2.2)
    else loadW r D (takeW L (firstN (natsOf n)) (getF D n).all (decide (r = []))).2.1
def settleW (D : DiskS) (L : WalS) : DiskS × Nat :=
  match L.fs.getLast? with
  | none => (D, 0)
  | some f =>
    if fileE D (nameW f.f) ≠ 0 then (D, fileE D (nameW f.f))
    else if f.s < (getF D (nameW f.f)).all.length then
      (if (cutD D (nameW f.f) f.s).2 ≠ 0 then cutD D (nameW f.f) f.s else syncD (cutD D (nameW f.f) f.s).1 (nameW f.f))
    else syncD D (nameW f.f)
/-- Is a name a log's file's? -/
def isW (f : FileS) : Bool := decide (firstN (natsOf f.name) ≠ 0)
def logF (D : DiskS) : List FileS := D.files.filter isW
def namesW (D : DiskS) : List ByteArray := (logF D).map (·.name)
/-- Behind the last file's settling: the base. -/
def closeW (D : DiskS) (L : WalS) (base : Nat) : DiskS × Option WalS × Nat :=
  let r := if L.fs = [] ∨ L.last < base then resetW D L base else (D, L, 0)
  if r.2.2 ≠ 0 then (r.1, none, r.2.2) else if base < r.2.1.b then (r.1, none, 20) else (r.1, some { r.2.1 with safe := r.2.1.es.length }, 0)
def openE (D : DiskS) (L : WalS) (base : Nat) : DiskS × Option WalS × Nat :=
  if (settleW D L).2 ≠ 0 then ((settleW D L).1, none, (settleW D L).2) else closeW (settleW D L).1 L base
def openW (D : DiskS) (base : Nat) : DiskS × Option WalS × Nat :=
  if D.down = true then (D, none, 50) else if H59 ≤ base then (D, none, 2)
  else if (loadW (namesW D) D ⟨0, [], [], 0⟩).2.2 ≠ 0 then ((loadW (namesW D) D ⟨0, [], [], 0⟩).1, none, (loadW (namesW D) D ⟨0, [], [], 0⟩).2.2)
  else openE (loadW (namesW D) D ⟨0, [], [], 0⟩).1 (loadW (namesW D) D ⟨0, [], [], 0⟩).2.1 base

-- THE LOG'S FILES AMONG ALL
theorem filter_del (n : ByteArray) (L : List FileS) : (delFile n L).filter isW = delFile n (L.filter isW) := by
  unfold delFile
  rw [List.filter_filter, List.filter_filter]
  congr 1
  funext g
  exact Bool.and_comm _ _
end Go.Proofs.YtjdglpcnkiioeaaGreat

/- A log in memory: rows of entries, rows of files, the log's own block; no conditions. -/
namespace Go.Proofs.YtjdglpcnkiioeaaGreat
open Go.RowKit Go.Maps Go.Proofs.Own

/-- Entries with the values of their data. -/
abbrev EntR := List (EntS × Value)
def entRow (p : EntS × Value) : List Value := [.int .u64 p.1.t, .int .i64 p.1.k, p.2]
def entRows (l : EntR) : List (List Value) := l.map entRow
/-- An entry that may stand in memory. -/
def EntS.fits (e : EntS) : Prop := 0 ≤ e.t ∧ e.t < 18446744073709551616 ∧ -9223372036854775808 ≤ e.k ∧ e.k ≤ 9223372036854775807
theorem EntS.ok.fits {e : EntS} (h : e.ok) : e.fits := by
  obtain ⟨h1, h2, h3, h4, _⟩ := h
  exact ⟨by omega, by omega, by omega, by omega⟩
/-- The data of entries are their bytes, in blocks of which S does not tell. -/
def Datas (w : World) (S : Nat → Prop) (l : EntR) : Prop := ∀ p ∈ l, Bytes w p.2 p.1.d ∧ p.1.fits ∧ ∀ b, p.2.ownBlock = some b → ¬ S b
theorem Datas.kept {w w' : World} {S T : Nat → Prop} {l : EntR} (h : Datas w S l) (hk : Kept w w' T) (hs : ∀ k, T k → S k) : Datas w' S l := fun p hp =>
  let ⟨h1, h2, h3⟩ := h p hp
  ⟨h1.kept hk fun b hb ht => h3 b hb (hs b ht), h2, h3⟩
theorem Datas.mono {w : World} {S T : Nat → Prop} {l : EntR} (h : Datas w S l) (hs : ∀ p ∈ l, ∀ b, p.2.ownBlock = some b → T b → S b) : Datas w T l := fun p hp =>
  let ⟨h1, h2, h3⟩ := h p hp
  ⟨h1, h2, fun b hb ht => h3 b hb (hs p hp b hb ht)⟩
theorem Datas.app {w : World} {S : Nat → Prop} {l m : EntR} (h : Datas w S l) (g : Datas w S m) : Datas w S (l ++ m) := fun p hp => (List.mem_append.1 hp).elim (h p) (g p)
theorem Datas.sub {w : World} {S : Nat → Prop} {l m : EntR} (h : Datas w S l) (hs : ∀ p ∈ m, p ∈ l) : Datas w S m := fun p hp => h p (hs p hp)
/-- v: the entries l, as rows. -/
def EntsIs (w : World) (v : Value) (l : EntR) : Prop := SRow w 3 v (entRows l) ∧ Datas w (fun _ => False) l
theorem entRows_length (l : EntR) : (entRows l).length = l.length := List.length_map ..
theorem entRows_each (l : EntR) : ∀ r ∈ entRows l, r.length = 3 := fun r hr => by
  obtain ⟨p, _, rfl⟩ := List.mem_map.1 hr
  rfl
theorem Bytes.oneCell {w : World} {v : Value} {l : List Nat} (h : Bytes w v l) : v.oneCell' = true := by
  obtain ⟨a, c, rfl, _⟩ := h.shape
  rfl
theorem Datas.oneCell {w : World} {S : Nat → Prop} {l : EntR} (h : Datas w S l) : ∀ r ∈ entRows l, ∀ u ∈ r, u.oneCell' = true := fun r hr u hu => by
  obtain ⟨p, hp, rfl⟩ := List.mem_map.1 hr
  simp only [entRow, List.mem_cons, List.not_mem_nil, or_false] at hu
  rcases hu with rfl | rfl | rfl
  · rfl
  · rfl
  · exact (h p hp).1.oneCell
theorem entRows_app (l m : EntR) : entRows (l ++ m) = entRows l ++ entRows m := List.map_append
theorem EntsIs.kept {w w' : World} {v : Value} {l : EntR} {T : Nat → Prop} (h : EntsIs w v l) (hk : Kept w w' T) (hs : l = [] ∨ ∀ b, v.ownBlock = some b → ¬ T b) (hd : ∀ p ∈ l, ∀ b, p.2.ownBlock = some b → ¬ T b) : EntsIs w' v l :=
  ⟨h.1.kept hk (hs.imp (fun e => by rw [e]; rfl) id), fun p hp => let ⟨h1, h2, h3⟩ := h.2 p hp; ⟨h1.kept hk (hd p hp), h2, h3⟩⟩
theorem EntsIs.below {w w' : World} {v : Value} {l : EntR} (h : EntsIs w v l) (hb : Below w.heap.size w w') : EntsIs w' v l :=
  ⟨h.1.below hb, fun p hp => let ⟨h1, h2, h3⟩ := h.2 p hp; ⟨h1.below hb, h2, h3⟩⟩
-- BLOCKS WITHOUT A BYTE
def NoB (w : World) (S : Nat → Prop) : Prop := ∀ k, S k → ∀ j x, w.cell? ⟨k, j, none⟩ ≠ some (.int .u8 x)
theorem NoB.or {w : World} {S T : Nat → Prop} (h : NoB w S) (g : NoB w T) : NoB w (fun k => S k ∨ T k) := fun k hk => hk.elim (h k) (g k)
theorem noB_own {w : World} {e : TypeId} {sz : Nat} {v : Value} {rs : List (List Value)} (h : OwnL w e sz v rs) : NoB w (fun k => v.ownBlock = some k) := by
  intro k hk j x hx
  obtain ⟨cur, fz, hg, h8⟩ := h.no8 hk
  have hc : cur[j]? = some (.int .u8 x) := by simpa [World.cell?, hg] using hx
  exact h8 x (Array.mem_toList_iff.2 (Array.mem_of_getElem? hc))
theorem Bytes.keptN {w w' : World} {v : Value} {l : List Nat} {S : Nat → Prop} (h : Bytes w v l) (hk : Kept w w' S) (hn : NoB w S) : Bytes w' v l := by
  refine h.keptIf hk fun hne b hb hs => ?_
  obtain ⟨b', o, c, rfl, _, _, hc⟩ := h.somewhere (List.length_pos_iff.2 hne)
  obtain rfl : b' = b := Option.some.inj hb
  exact hn b' hs _ _ (hc 0 (List.length_pos_iff.2 hne))
theorem DiskIs.keptN {w w' : World} {db mb tb : Nat} {D : DiskS} {S : Nat → Prop} (h : DiskIs w db mb tb D) (hk : Kept w w' S) (hs : ∀ k, Own3 db mb tb k → ¬ S k) (hn : NoB w S) : DiskIs w' db mb tb D :=
  h.kept hk hs fun vals f _ hf => by
    obtain ⟨a, c, e, hB, ho⟩ := hf
    exact ⟨a, c, e, hB.keptN hk hn, ho⟩
theorem Datas.keptN {w w' : World} {S T : Nat → Prop} {l : EntR} (h : Datas w S l) (hk : Kept w w' T) (hn : NoB w T) : Datas w' S l := fun p hp =>
  let ⟨h1, h2, h3⟩ := h p hp
  ⟨h1.keptN hk hn, h2, h3⟩
/-- A file's cells. -/
def wfRow (f : WF) : List Value := [.int .u64 f.f, .int .i64 f.m, .int .i64 f.s]
theorem wfRow_each (l : List WF) : ∀ r ∈ l.map wfRow, r.length = 3 := fun r hr => by
  obtain ⟨p, _, rfl⟩ := List.mem_map.1 hr
  rfl
/-- What a log has of the memory: its block, the disk's, those of its two rows. -/
def LOwn (lb db mb tb : Nat) (ev fv : Value) : Nat → Prop := fun k => k = lb ∨ Own3 db mb tb k ∨ ev.ownBlock = some k ∨ fv.ownBlock = some k
/-- The block lb is the log L on the disk D; its rows are ev, fv; el: its entries with their data. -/
structure LogAt (w : World) (lb db mb tb : Nat) (ev fv : Value) (el : EntR) (D : DiskS) (L : WalS) : Prop where
  disk : DiskIs w db mb tb D
  c0 : w.cell? ⟨lb, 0, none⟩ = some (.pointer (some ⟨db, 0, none⟩))
  c1 : w.cell? ⟨lb, 1, none⟩ = some (.int .u64 L.b)
  c2 : w.cell? ⟨lb, 2, none⟩ = some ev
  c3 : w.cell? ⟨lb, 3, none⟩ = some fv
  c4 : w.cell? ⟨lb, 4, none⟩ = some (.int .i64 L.safe)
  fz : ∀ j, 1 ≤ j → j ≤ 4 → w.frozen? ⟨lb, j, none⟩ = false
  n8 : NoB w (fun k => k = lb)
  es : el.map (·.1) = L.es
  er : OwnL w 38 3 ev (entRows el)
  fr : OwnL w 188 3 fv (L.fs.map wfRow)
  dat : Datas w (Own3 db mb tb) el
  nl : ¬ Own3 db mb tb lb
  ne : ∀ b, ev.ownBlock = some b → b ≠ lb ∧ ¬ Own3 db mb tb b ∧ fv.ownBlock ≠ some b
  nf : ∀ b, fv.ownBlock = some b → b ≠ lb ∧ ¬ Own3 db mb tb b
theorem LogAt.lt {w : World} {lb db mb tb : Nat} {ev fv : Value} {el : EntR} {D : DiskS} {L : WalS} (h : LogAt w lb db mb tb ev fv el D L) : lb < w.heap.size := World.block_lt_of_cell? _ _ h.c0
theorem LogAt.lenE {w : World} {lb db mb tb : Nat} {ev fv : Value} {el : EntR} {D : DiskS} {L : WalS} (h : LogAt w lb db mb tb ev fv el D L) : el.length = L.es.length := by rw [← h.es, List.length_map]
theorem LogAt.shapeE {w : World} {lb db mb tb : Nat} {ev fv : Value} {el : EntR} {D : DiskS} {L : WalS} (h : LogAt w lb db mb tb ev fv el D L) : ∃ a c, ev = .slice a L.es.length c ∧ L.es.length ≤ c := by
  obtain ⟨a, c, e⟩ := h.er.shape
  rw [entRows_length, h.lenE] at e
  exact ⟨a, c, e⟩
theorem LogAt.shapeF {w : World} {lb db mb tb : Nat} {ev fv : Value} {el : EntR} {D : DiskS} {L : WalS} (h : LogAt w lb db mb tb ev fv el D L) : ∃ a c, fv = .slice a L.fs.length c ∧ L.fs.length ≤ c := by
  obtain ⟨a, c, e⟩ := h.fr.shape
  rw [List.length_map] at e
  exact ⟨a, c, e⟩
/-- .. while new memory is made. -/
theorem LogAt.below {w w' : World} {lb db mb tb : Nat} {ev fv : Value} {el : EntR} {D : DiskS} {L : WalS} (h : LogAt w lb db mb tb ev fv el D L) (hb : Below w.heap.size w w') : LogAt w' lb db mb tb ev fv el D L := by
  have hl := h.lt
  exact ⟨h.disk.below hb, Below.at hb h.c0 hl, Below.at hb h.c1 hl, Below.at hb h.c2 hl, Below.at hb h.c3 hl, Below.at hb h.c4 hl, fun j h1 h2 => by rw [hb.frozen (p := ⟨lb, j, none⟩) hl]; exact h.fz j h1 h2, (fun k hk j x hx => by subst hk; exact h.n8 k rfl j x (by rw [← hb.cell (p := ⟨k, j, none⟩) hl]; exact hx)), h.es, h.er.below hb, h.fr.below hb,
    fun p hp => let ⟨h1, h2, h3⟩ := h.dat p hp; ⟨h1.below hb, h2, h3⟩, h.nl, h.ne, h.nf⟩
/-- .. while a disk's call is made. -/
theorem LogAt.disked {w w' : World} {lb db mb tb : Nat} {ev fv : Value} {el : EntR} {D D' : DiskS} {L : WalS} (h : LogAt w lb db mb tb ev fv el D L) (hd : DiskIs w' db mb tb D') (hk : Kept w w' (Own3 db mb tb)) : LogAt w' lb db mb tb ev fv el D' L := by
  have hl := h.lt
  exact ⟨hd, hk.cell h.c0 h.nl, hk.cell h.c1 h.nl, hk.cell h.c2 h.nl, hk.cell h.c3 h.nl, hk.cell h.c4 h.nl, fun j h1 h2 => (hk.frozen (a := ⟨lb, j, none⟩) hl h.nl).trans (h.fz j h1 h2), (fun k hk2 j x hx => by subst hk2; exact h.n8 k rfl j x (by rw [← World.cell?_of_block (a := ⟨k, j, none⟩) (hk.block k hl h.nl)]; exact hx)), h.es,
    h.er.kept hk fun b hb => (h.ne b hb).2.1, h.fr.kept hk fun b hb => (h.nf b hb).2, h.dat.kept hk fun k hk => hk, h.nl, h.ne, h.nf⟩
-- STORES INTO THE LOG'S OWN BLOCK
theorem LogAt.keptLb {w : World} {lb db mb tb : Nat} {ev fv : Value} {el : EntR} {D : DiskS} {L : WalS} (h : LogAt w lb db mb tb ev fv el D L) {j : Nat} {u v : Value} (hc : w.cell? ⟨lb, j, none⟩ = some u) (hv : ∀ x, v ≠ .int .u8 x) :
    DiskIs (w.setCell ⟨lb, j, none⟩ v) db mb tb D ∧ Kept w (w.setCell ⟨lb, j, none⟩ v) (fun k => k = lb) ∧ NoB (w.setCell ⟨lb, j, none⟩ v) (fun k => k = lb) ∧ (∀ i, 1 ≤ i → i ≤ 4 → (w.setCell ⟨lb, j, none⟩ v).frozen? ⟨lb, i, none⟩ = false) := by
  have hk : Kept w (w.setCell ⟨lb, j, none⟩ v) (fun k => k = lb) := Kept.setCell w ⟨lb, j, none⟩ v
  refine ⟨h.disk.keptN hk (fun k h1 h2 => ?_) h.n8, hk, fun k hk2 i x hx => ?_, fun i h1 h2 => by rw [World.frozen?_setCell]; exact h.fz i h1 h2⟩
  · subst h2
    exact h.nl h1
  · subst hk2
    by_cases e : i = j
    · subst e
      rw [World.cell?_setCell_same _ _ _ hc] at hx
      exact hv x (Option.some.inj hx)
    · rw [World.cell?_setCell_other _ _ _ _ (by simp only [ne_eq, Addr.mk.injEq, true_and, and_true]; omega)] at hx
      exact h.n8 k rfl i x hx
theorem LogAt.set4 {w : World} {lb db mb tb : Nat} {ev fv : Value} {el : EntR} {D : DiskS} {L : WalS} (h : LogAt w lb db mb tb ev fv el D L) (n : Nat) : LogAt (w.setCell ⟨lb, 4, none⟩ (.int .i64 n)) lb db mb tb ev fv el D { L with safe := n } := by
  obtain ⟨h1, h2, h3, h4⟩ := h.keptLb h.c4 (v := .int .i64 n) (fun x e => by cases e)
  exact ⟨h1, by rw [World.cell?_setCell_other _ _ _ _ (by simp)]; exact h.c0, by rw [World.cell?_setCell_other _ _ _ _ (by simp)]; exact h.c1, by rw [World.cell?_setCell_other _ _ _ _ (by simp)]; exact h.c2, by rw [World.cell?_setCell_other _ _ _ _ (by simp)]; exact h.c3,
    World.cell?_setCell_same _ _ _ h.c4, h4, h3, h.es, h.er.kept h2 fun b hb => (h.ne b hb).1, h.fr.kept h2 fun b hb => (h.nf b hb).1, h.dat.keptN h2 h.n8, h.nl, h.ne, h.nf⟩
theorem LogAt.set1 {w : World} {lb db mb tb : Nat} {ev fv : Value} {el : EntR} {D : DiskS} {L : WalS} (h : LogAt w lb db mb tb ev fv el D L) (n : Nat) : LogAt (w.setCell ⟨lb, 1, none⟩ (.int .u64 n)) lb db mb tb ev fv el D { L with b := n } := by
  obtain ⟨h1, h2, h3, h4⟩ := h.keptLb h.c1 (v := .int .u64 n) (fun x e => by cases e)
  exact ⟨h1, by rw [World.cell?_setCell_other _ _ _ _ (by simp)]; exact h.c0, World.cell?_setCell_same _ _ _ h.c1, by rw [World.cell?_setCell_other _ _ _ _ (by simp)]; exact h.c2, by rw [World.cell?_setCell_other _ _ _ _ (by simp)]; exact h.c3,
    by rw [World.cell?_setCell_other _ _ _ _ (by simp)]; exact h.c4, h4, h3, h.es, h.er.kept h2 fun b hb => (h.ne b hb).1, h.fr.kept h2 fun b hb => (h.nf b hb).1, h.dat.keptN h2 h.n8, h.nl, h.ne, h.nf⟩
theorem not8_own {w : World} {e : TypeId} {sz : Nat} {v : Value} {rs : List (List Value)} (h : OwnL w e sz v rs) : ∀ x, v ≠ .int .u8 x := fun x hx => by
  obtain ⟨a, c, e, _⟩ := h.shape
  rw [e] at hx
  cases hx
theorem LogAt.set2 {w : World} {lb db mb tb : Nat} {ev fv ev' : Value} {el el' : EntR} {D : DiskS} {L : WalS} (h : LogAt w lb db mb tb ev fv el D L) (he : OwnL w 38 3 ev' (entRows el')) (hd : Datas w (Own3 db mb tb) el')
    (hne : ∀ b, ev'.ownBlock = some b → b ≠ lb ∧ ¬ Own3 db mb tb b ∧ fv.ownBlock ≠ some b) : LogAt (w.setCell ⟨lb, 2, none⟩ ev') lb db mb tb ev' fv el' D { L with es := el'.map (·.1) } := by
  obtain ⟨h1, h2, h3, h4⟩ := h.keptLb h.c2 (v := ev') (not8_own he)
  exact ⟨h1, by rw [World.cell?_setCell_other _ _ _ _ (by simp)]; exact h.c0, by rw [World.cell?_setCell_other _ _ _ _ (by simp)]; exact h.c1, World.cell?_setCell_same _ _ _ h.c2, by rw [World.cell?_setCell_other _ _ _ _ (by simp)]; exact h.c3,
    by rw [World.cell?_setCell_other _ _ _ _ (by simp)]; exact h.c4, h4, h3, rfl, he.kept h2 fun b hb => (hne b hb).1, h.fr.kept h2 fun b hb => (h.nf b hb).1, hd.keptN h2 h.n8, h.nl, hne, h.nf⟩
theorem LogAt.set3 {w : World} {lb db mb tb : Nat} {ev fv fv' : Value} {el : EntR} {D : DiskS} {L : WalS} (h : LogAt w lb db mb tb ev fv el D L) {fs : List WF} (hf : OwnL w 188 3 fv' (fs.map wfRow))
    (hnf : ∀ b, fv'.ownBlock = some b → b ≠ lb ∧ ¬ Own3 db mb tb b ∧ ev.ownBlock ≠ some b) : LogAt (w.setCell ⟨lb, 3, none⟩ fv') lb db mb tb ev fv' el D { L with fs := fs } := by
  obtain ⟨h1, h2, h3, h4⟩ := h.keptLb h.c3 (v := fv') (not8_own hf)
  exact ⟨h1, by rw [World.cell?_setCell_other _ _ _ _ (by simp)]; exact h.c0, by rw [World.cell?_setCell_other _ _ _ _ (by simp)]; exact h.c1, by rw [World.cell?_setCell_other _ _ _ _ (by simp)]; exact h.c2, World.cell?_setCell_same _ _ _ h.c3,
    by rw [World.cell?_setCell_other _ _ _ _ (by simp)]; exact h.c4, h4, h3, h.es, h.er.kept h2 fun b hb => (h.ne b hb).1, hf.kept h2 fun b hb => (hnf b hb).1, h.dat.keptN h2 h.n8, h.nl,
    fun b hb => ⟨(h.ne b hb).1, (h.ne b hb).2.1, fun e => (hnf b e).2.2 hb⟩, fun b hb => ⟨(hnf b hb).1, (hnf b hb).2.1⟩⟩
/-- What a call of a log leaves: the disk and the log that r tells, its rows where they were or in new memory, and all else as it was. -/
def LogPost (lb db mb tb : Nat) (ev fv : Value) (r : DiskS × WalS × Nat) (w : World) : Ending → World → Prop := fun E w' =>
  E = .returned (.int .i64 r.2.2) ∧ ∃ ev' fv' el', LogAt w' lb db mb tb ev' fv' el' r.1 r.2.1 ∧ Kept w w' (LOwn lb db mb tb ev fv) ∧
    (∀ b, ev'.ownBlock = some b → ev.ownBlock = some b ∨ w.heap.size ≤ b) ∧ (∀ b, fv'.ownBlock = some b → fv.ownBlock = some b ∨ w.heap.size ≤ b)
end Go.Proofs.YtjdglpcnkiioeaaGreat

/- A log in memory: its rows grow, a file's cell is stored; no conditions. -/
namespace Go.Proofs.YtjdglpcnkiioeaaGreat
open Go.RowKit Go.Maps Go.Proofs.Own

/-- The row of entries grows, in place or into new memory, and is stored. -/
theorem LogAt.grownE {w w' : World} {lb db mb tb : Nat} {ev fv ev' : Value} {el el' : EntR} {D : DiskS} {L : WalS} (h : LogAt w lb db mb tb ev fv el D L) (hg : w.grownBy w' ev.ownBlock)
    (he : OwnL w' 38 3 ev' (entRows el')) (hb : ev'.ownBlock = ev.ownBlock ∨ ev'.ownBlock = some w.heap.size) (hd : Datas w' (Own3 db mb tb) el') :
    LogAt (w'.setCell ⟨lb, 2, none⟩ ev') lb db mb tb ev' fv el' D { L with es := el'.map (·.1) } ∧ Kept w (w'.setCell ⟨lb, 2, none⟩ ev') (LOwn lb db mb tb ev fv) := by
  have hk : Kept w w' (fun k => ev.ownBlock = some k) := Kept.of_grown hg
  have hnl : ¬ ev.ownBlock = some lb := fun e => (h.ne lb e).1 rfl
  have hno : ∀ k, Own3 db mb tb k → ¬ ev.ownBlock = some k := fun k h1 h2 => (h.ne k h2).2.1 h1
  have hl := h.lt
  have c0 := hk.cell h.c0 hnl
  have c1 := hk.cell h.c1 hnl
  have c2 := hk.cell h.c2 hnl
  have c3 := hk.cell h.c3 hnl
  have c4 := hk.cell h.c4 hnl
  have n8 : NoB w' (fun k => k = lb) := fun k hk2 j x hx => by
    subst hk2
    exact h.n8 k rfl j x (by rw [← World.cell?_of_block (a := ⟨k, j, none⟩) (hk.block k hl hnl)]; exact hx)
  have hsk : Kept w' (w'.setCell ⟨lb, 2, none⟩ ev') (fun k => k = lb) := Kept.setCell w' ⟨lb, 2, none⟩ ev'
  have hdk : DiskIs w' db mb tb D := h.disk.keptN hk hno (noB_own h.er)
  have hne : ∀ b, ev'.ownBlock = some b → b ≠ lb ∧ ¬ Own3 db mb tb b ∧ fv.ownBlock ≠ some b := by
    intro b hb2
    rcases hb with hb | hb
    · rw [hb] at hb2
      exact h.ne b hb2
    · rw [hb] at hb2
      obtain rfl := Option.some.inj hb2
      refine ⟨fun e => by omega, fun e => ?_, fun e => ?_⟩
      · have := h.disk.lt3 _ e
        omega
      · have := h.fr.lt _ e
        omega
  have hfr : OwnL w' 188 3 fv (L.fs.map wfRow) := h.fr.kept hk fun b hb2 e => (h.ne b e).2.2 hb2
  refine ⟨⟨hdk.keptN hsk (fun k h1 h2 => by subst h2; exact h.nl h1) n8, by rw [World.cell?_setCell_other _ _ _ _ (by simp)]; exact c0, by rw [World.cell?_setCell_other _ _ _ _ (by simp)]; exact c1, World.cell?_setCell_same _ _ _ c2,
    by rw [World.cell?_setCell_other _ _ _ _ (by simp)]; exact c3, by rw [World.cell?_setCell_other _ _ _ _ (by simp)]; exact c4, fun j h1 h2 => by rw [World.frozen?_setCell, hk.frozen (a := ⟨lb, j, none⟩) hl hnl]; exact h.fz j h1 h2, ?_, rfl,
    he.kept hsk fun b hb2 => (hne b hb2).1, hfr.kept hsk fun b hb2 => (h.nf b hb2).1, hd.keptN hsk n8, h.nl, hne, h.nf⟩, ?_⟩
  · intro k hk2 j x hx
    subst hk2
    by_cases e : j = 2
    · subst e
      rw [World.cell?_setCell_same _ _ _ c2] at hx
      exact not8_own he x (Option.some.inj hx)
    · rw [World.cell?_setCell_other _ _ _ _ (by simp only [ne_eq, Addr.mk.injEq, true_and, and_true]; omega)] at hx
      exact n8 k rfl j x hx
  · exact hk.andThen hsk fun k _ h2 => h2.elim (fun e => .inr (.inr (.inl e))) fun e => .inl e
/-- .. the row of files. -/
theorem LogAt.grownF {w w' : World} {lb db mb tb : Nat} {ev fv fv' : Value} {el : EntR} {D : DiskS} {L : WalS} (h : LogAt w lb db mb tb ev fv el D L) (hg : w.grownBy w' fv.ownBlock) {fs : List WF}
    (hf : OwnL w' 188 3 fv' (fs.map wfRow)) (hb : fv'.ownBlock = fv.ownBlock ∨ fv'.ownBlock = some w.heap.size) :
    LogAt (w'.setCell ⟨lb, 3, none⟩ fv') lb db mb tb ev fv' el D { L with fs := fs } ∧ Kept w (w'.setCell ⟨lb, 3, none⟩ fv') (LOwn lb db mb tb ev fv) := by
  have hk : Kept w w' (fun k => fv.ownBlock = some k) := Kept.of_grown hg
  have hnl : ¬ fv.ownBlock = some lb := fun e => (h.nf lb e).1 rfl
  have hno : ∀ k, Own3 db mb tb k → ¬ fv.ownBlock = some k := fun k h1 h2 => (h.nf k h2).2 h1
  have hl := h.lt
  have c0 := hk.cell h.c0 hnl
  have c1 := hk.cell h.c1 hnl
  have c2 := hk.cell h.c2 hnl
  have c3 := hk.cell h.c3 hnl
  have c4 := hk.cell h.c4 hnl
  have n8 : NoB w' (fun k => k = lb) := fun k hk2 j x hx => by
    subst hk2
    exact h.n8 k rfl j x (by rw [← World.cell?_of_block (a := ⟨k, j, none⟩) (hk.block k hl hnl)]; exact hx)
  have hsk : Kept w' (w'.setCell ⟨lb, 3, none⟩ fv') (fun k => k = lb) := Kept.setCell w' ⟨lb, 3, none⟩ fv'
  have hdk : DiskIs w' db mb tb D := h.disk.keptN hk hno (noB_own h.fr)
  have hnf : ∀ b, fv'.ownBlock = some b → b ≠ lb ∧ ¬ Own3 db mb tb b ∧ ev.ownBlock ≠ some b := by
    intro b hb2
    rcases hb with hb | hb
    · rw [hb] at hb2
      exact ⟨(h.nf b hb2).1, (h.nf b hb2).2, fun e => (h.ne b e).2.2 hb2⟩
    · rw [hb] at hb2
      obtain rfl := Option.some.inj hb2
      refine ⟨fun e => by omega, fun e => ?_, fun e => ?_⟩
      · have := h.disk.lt3 _ e
        omega
      · have := h.er.lt _ e
        omega
  have her : OwnL w' 38 3 ev (entRows el) := h.er.kept hk fun b hb2 e => (h.ne b hb2).2.2 e
  refine ⟨⟨hdk.keptN hsk (fun k h1 h2 => by subst h2; exact h.nl h1) n8, by rw [World.cell?_setCell_other _ _ _ _ (by simp)]; exact c0, by rw [World.cell?_setCell_other _ _ _ _ (by simp)]; exact c1, by rw [World.cell?_setCell_other _ _ _ _ (by simp)]; exact c2,
    World.cell?_setCell_same _ _ _ c3, by rw [World.cell?_setCell_other _ _ _ _ (by simp)]; exact c4, fun j h1 h2 => by rw [World.frozen?_setCell, hk.frozen (a := ⟨lb, j, none⟩) hl hnl]; exact h.fz j h1 h2, ?_, h.es,
    her.kept hsk fun b hb2 => (h.ne b hb2).1, hf.kept hsk fun b hb2 => (hnf b hb2).1, (h.dat.keptN hk (noB_own h.fr)).keptN hsk n8, h.nl,
    fun b hb2 => ⟨(h.ne b hb2).1, (h.ne b hb2).2.1, fun e => (hnf b e).2.2 hb2⟩, fun b hb2 => ⟨(hnf b hb2).1, (hnf b hb2).2.1⟩⟩, ?_⟩
  · intro k hk2 j x hx
    subst hk2
    by_cases e : j = 3
    · subst e
      rw [World.cell?_setCell_same _ _ _ c3] at hx
      exact not8_own hf x (Option.some.inj hx)
    · rw [World.cell?_setCell_other _ _ _ _ (by simp only [ne_eq, Addr.mk.injEq, true_and, and_true]; omega)] at hx
      exact n8 k rfl j x hx
  · exact hk.andThen hsk fun k _ h2 => h2.elim (fun e => .inr (.inr (.inr e))) fun e => .inl e
/-- A cell of a file is stored. -/
theorem LogAt.storedF {w : World} {lb db mb tb g n c : Nat} {ev : Value} {el : EntR} {D : DiskS} {L : WalS} (h : LogAt w lb db mb tb ev (.slice (some ⟨g, 0, none⟩) n c) el D L) {k i : Nat} (hk : k < L.fs.length) (hi : i < 3) {x : Int} {q : IntKind} (hq : q ≠ .u8) {fs : List WF}
    (hfs : fs.map wfRow = (L.fs.map wfRow).set k (((L.fs.map wfRow)[k]'(by rw [List.length_map]; exact hk)).set i (.int q x))) :
    LogAt (w.setCell ⟨g, k * 3 + i, none⟩ (.int q x)) lb db mb tb ev (.slice (some ⟨g, 0, none⟩) n c) el D { L with fs := fs } := by
  have hu : ∀ y, (Value.int q x) ≠ .int .u8 y := fun y e => by
    cases e
    exact hq rfl
  have hs := h.fr.stored (k := k) (i := i) (by rw [List.length_map]; exact hk) hi hu
  rw [← hfs] at hs
  have hk2 : Kept w (w.setCell ⟨g, k * 3 + i, none⟩ (.int q x)) (fun b => (Value.slice (some ⟨g, 0, none⟩) n c).ownBlock = some b) := (Kept.setCell w ⟨g, k * 3 + i, none⟩ (.int q x)).mono fun b _ e => by rw [e]; rfl
  have hnl : ¬ (Value.slice (some ⟨g, 0, none⟩) n c).ownBlock = some lb := fun e => (h.nf lb e).1 rfl
  have hl := h.lt
  exact ⟨h.disk.keptN hk2 (fun b h1 h2 => (h.nf b h2).2 h1) (noB_own h.fr), hk2.cell h.c0 hnl, hk2.cell h.c1 hnl, hk2.cell h.c2 hnl, hk2.cell h.c3 hnl, hk2.cell h.c4 hnl, fun j h1 h2 => (hk2.frozen (a := ⟨lb, j, none⟩) hl hnl).trans (h.fz j h1 h2),
    (fun b hb j y hy => by subst hb; exact h.n8 b rfl j y (by rw [← World.cell?_of_block (a := ⟨b, j, none⟩) (hk2.block b hl hnl)]; exact hy)), h.es, h.er.kept hk2 fun b hb e => (h.ne b hb).2.2 e, hs, h.dat.keptN hk2 (noB_own h.fr), h.nl, h.ne, h.nf⟩
end Go.Proofs.YtjdglpcnkiioeaaGreat

/- A log in memory: a file's cells, one call behind another, a new log; no conditions. -/
namespace Go.Proofs.YtjdglpcnkiioeaaGreat
open Go.RowKit Go.Maps Go.Proofs.Own

theorem OwnL.unfrozen {w : World} {e : TypeId} {sz g n c : Nat} {rs : List (List Value)} (h : OwnL w e sz (.slice (some ⟨g, 0, none⟩) n c) rs) (j : Nat) : w.frozen? ⟨g, j, none⟩ = false := by
  rcases h.own with ⟨e1, _⟩ | ⟨g', cap, cur, e1, hg, _⟩
  · cases e1
  · cases e1
    simp [World.frozen?, hg]
theorem OwnL.some {w : World} {e : TypeId} {sz : Nat} {v : Value} {rs : List (List Value)} (h : OwnL w e sz v rs) (hne : rs ≠ []) : ∃ g c, v = .slice (some ⟨g, 0, none⟩) rs.length c ∧ rs.length ≤ c ∧ g < w.heap.size := by
  rcases h.own with ⟨_, e1⟩ | ⟨g, cap, cur, e1, hg, hn, _⟩
  · exact absurd e1 hne
  · exact ⟨g, cap, e1, hn, (Array.getElem?_eq_some_iff.1 hg).1⟩
/-- A file's cells. -/
theorem LogAt.cellF {w : World} {lb db mb tb g n c : Nat} {ev : Value} {el : EntR} {D : DiskS} {L : WalS} (h : LogAt w lb db mb tb ev (.slice (some ⟨g, 0, none⟩) n c) el D L) {k : Nat} (hk : k < L.fs.length) :
    w.cell? ⟨g, k * 3, none⟩ = some (.int .u64 L.fs[k].f) ∧ w.cell? ⟨g, k * 3 + 1, none⟩ = some (.int .i64 L.fs[k].m) ∧ w.cell? ⟨g, k * 3 + 2, none⟩ = some (.int .i64 L.fs[k].s) := by
  have hk' : k < (L.fs.map wfRow).length := by rw [List.length_map]; exact hk
  have hrow : (L.fs.map wfRow)[k] = wfRow L.fs[k] := by simp
  have H : ∀ i u, (wfRow L.fs[k])[i]? = some u → w.cell? ⟨g, k * 3 + i, none⟩ = some u := fun i u hu => by
    have := h.fr.flat (k * 3 + i) u (flatten_at h.fr.each hk' (by rw [hrow]; exact hu))
    rwa [Addr.add_lit, Nat.zero_add] at this
  exact ⟨H 0 _ rfl, H 1 _ rfl, H 2 _ rfl⟩
/-- What a step of a log's calls leaves of the memory. -/
def LStep (lb db mb tb : Nat) (w : World) (ev fv : Value) (w' : World) (ev' fv' : Value) : Prop :=
  Kept w w' (LOwn lb db mb tb ev fv) ∧ (∀ b, ev'.ownBlock = some b → ev.ownBlock = some b ∨ w.heap.size ≤ b) ∧ (∀ b, fv'.ownBlock = some b → fv.ownBlock = some b ∨ w.heap.size ≤ b)
theorem LStep.refl (lb db mb tb : Nat) (w : World) (ev fv : Value) : LStep lb db mb tb w ev fv w ev fv := ⟨Kept.refl _ _, fun _ h => .inl h, fun _ h => .inl h⟩
theorem LStep.trans {lb db mb tb : Nat} {w w1 w2 : World} {ev fv ev' fv' ev'' fv'' : Value} (h : LStep lb db mb tb w ev fv w1 ev' fv') (k : LStep lb db mb tb w1 ev' fv' w2 ev'' fv'') : LStep lb db mb tb w ev fv w2 ev'' fv'' := by
  refine ⟨h.1.andThen k.1 fun b hb hs => ?_, fun b hb => ?_, fun b hb => ?_⟩
  · rcases hs with hs | hs | hs | hs | hs
    · exact hs
    · exact .inl hs
    · exact .inr (.inl hs)
    · rcases h.2.1 b hs with e | e
      · exact .inr (.inr (.inl e))
      · exact absurd hb (Nat.not_lt.2 e)
    · rcases h.2.2 b hs with e | e
      · exact .inr (.inr (.inr e))
      · exact absurd hb (Nat.not_lt.2 e)
  · rcases k.2.1 b hb with e | e
    · exact h.2.1 b e
    · exact .inr (Nat.le_trans h.1.size e)
  · rcases k.2.2 b hb with e | e
    · exact h.2.2 b e
    · exact .inr (Nat.le_trans h.1.size e)
theorem LStep.below {lb db mb tb : Nat} {w w' : World} {ev fv : Value} (h : Below w.heap.size w w') : LStep lb db mb tb w ev fv w' ev fv :=
  ⟨Kept.of_below h fun k h1 h2 => by omega, fun _ h => .inl h, fun _ h => .inl h⟩
theorem LStep.disk {lb db mb tb : Nat} {w w' : World} {ev fv : Value} (h : Kept w w' (Own3 db mb tb)) : LStep lb db mb tb w ev fv w' ev fv :=
  ⟨h.mono fun _k _ e => .inr (.inl e), fun _ h => .inl h, fun _ h => .inl h⟩
theorem LStep.own {lb db mb tb : Nat} {w w' : World} {ev fv : Value} (h : Kept w w' (fun k => k = lb)) : LStep lb db mb tb w ev fv w' ev fv :=
  ⟨h.mono fun _k _ e => .inl e, fun _ h => .inl h, fun _ h => .inl h⟩
/-- A new log. -/
theorem LogAt.new {w : World} {db mb tb : Nat} {D : DiskS} (h : DiskIs w db mb tb D) :
    LogAt (w.alloc (.cells #[.pointer (some ⟨db, 0, none⟩), .int .u64 0, .slice none 0 0, .slice none 0 0, .int .i64 0] 34)) w.heap.size db mb tb (.slice none 0 0) (.slice none 0 0) [] D ⟨0, [], [], 0⟩ := by
  have hb : (w.alloc (.cells #[.pointer (some ⟨db, 0, none⟩), .int .u64 0, .slice none 0 0, .slice none 0 0, .int .i64 0] 34)).heap[w.heap.size]? = some (.cells #[.pointer (some ⟨db, 0, none⟩), .int .u64 0, .slice none 0 0, .slice none 0 0, .int .i64 0] 34 (0, 0)) := heap_alloc_new _ _
  refine ⟨h.below ((Below.refl _ _).alloc (Nat.le_refl _) _), by go_cell, by go_cell, by go_cell, by go_cell, by go_cell, fun j _ _ => by simp, fun k hk j x hx => ?_, rfl, OwnL.nil _ _ _, OwnL.nil _ _ _, nofun, fun e => ?_, nofun, nofun⟩
  · subst hk
    unfold World.cell? at hx
    simp only at hx
    rw [hb] at hx
    rcases j with _ | _ | _ | _ | _ | j <;> simp at hx
  · have := h.lt3 _ e
    omega
theorem EntsIs.each {w : World} {v : Value} {l : EntR} (_h : EntsIs w v l) : ∀ r ∈ entRows l, r.length = 3 := entRows_each l
theorem entRows_no8 {w : World} {S : Nat → Prop} {l : EntR} (h : Datas w S l) : No8 (entRows l).flatten := by
  intro x hx
  obtain ⟨r, hr, hx⟩ := List.mem_flatten.1 hx
  obtain ⟨p, hp, rfl⟩ := List.mem_map.1 hr
  simp only [entRow, List.mem_cons, List.not_mem_nil, or_false, reduceCtorEq, Value.int.injEq, false_and, false_or] at hx
  obtain ⟨a, c, e, _⟩ := (h p hp).1.shape
  rw [e] at hx
  cases hx
end Go.Proofs.YtjdglpcnkiioeaaGreat

/- Contracts of slices.Clone at entries and at a log's files, of segment.Copy; no conditions but the lengths. -/
namespace Go.Proofs.YtjdglpcnkiioeaaGreat
open Go.RowKit Go.Maps Go.Proofs.Own

theorem entry3 : RowSlice Tryz.prog 23 38 3 40 := by
  obtain ⟨i0, hi, hz0, hz1, hz2⟩ := info_parts (show (Tryz.prog.info? 38).map (fun i => (i.zero, i.size, i.bytes)) = some (some (.agg #[.int .u64 0, .int .i64 0, .slice none 0 0]), 3, 40) by kernel_rfl)
  exact ⟨Tryz.underlying23, ⟨i0, _, hi, hz0, hz1, hz2, rfl⟩, by decide, by decide⟩
theorem wfile3 : RowSlice Tryz.prog 32 188 3 24 := by
  obtain ⟨i0, hi, hz0, hz1, hz2⟩ := info_parts (show (Tryz.prog.info? 188).map (fun i => (i.zero, i.size, i.bytes)) = some (some (.agg #[.int .u64 0, .int .i64 0, .int .i64 0]), 3, 24) by kernel_rfl)
  exact ⟨Tryz.underlying32, ⟨i0, _, hi, hz0, hz1, hz2, rfl⟩, by decide, by decide⟩
theorem entry8 : Zero8 Tryz.prog 38 := fun i z hi hz => by
  obtain ⟨i0, h1, h2, _, _⟩ := info_parts (show (Tryz.prog.info? 38).map (fun i => (i.zero, i.size, i.bytes)) = some (some (.agg #[.int .u64 0, .int .i64 0, .slice none 0 0]), 3, 40) by kernel_rfl)
  rw [hi] at h1
  cases h1
  rw [hz] at h2
  cases h2
  intro x hx
  simp [Value.cells] at hx
theorem wfile8 : Zero8 Tryz.prog 188 := fun i z hi hz => by
  obtain ⟨i0, h1, h2, _, _⟩ := info_parts (show (Tryz.prog.info? 188).map (fun i => (i.zero, i.size, i.bytes)) = some (some (.agg #[.int .u64 0, .int .i64 0, .int .i64 0]), 3, 24) by kernel_rfl)
  rw [hi] at h1
  cases h1
  rw [hz] at h2
  cases h2
  intro x hx
  simp [Value.cells] at hx
theorem wfRow_no8 (l : List WF) : No8 (l.map wfRow).flatten := by
  intro x hx
  obtain ⟨r, hr, hx⟩ := List.mem_flatten.1 hx
  obtain ⟨p, hp, rfl⟩ := List.mem_map.1 hr
  simp [wfRow] at hx
theorem wfRow_one (l : List WF) : ∀ r ∈ l.map wfRow, ∀ u ∈ r, u.oneCell' = true := fun r hr u hu => by
  obtain ⟨p, hp, rfl⟩ := List.mem_map.1 hr
  simp only [wfRow, List.mem_cons, List.not_mem_nil, or_false] at hu
  rcases hu with rfl | rfl | rfl <;> rfl

set_option maxHeartbeats 1600000 in
set_option maxRecDepth 20000 in
theorem eclone_any (v : Value) (l : EntR) (w : World) (h : SRow w 3 v (entRows l)) (hd : Datas w (fun _ => False) l) (hl : l.length ≤ 2147483648) :
    Calls Tryz.prog 116 #[v] w fun e w' => ∃ v', e = .returned v' ∧ OwnL w' 38 3 v' (entRows l) ∧ Below w.heap.size w w' ∧ ∀ b, v'.ownBlock = some b → w.heap.size ≤ b := by
  have H := Lib.hid h
  have HD := Lib.hid hd
  have HL := Lib.hid hl
  obtain ⟨a, c, rfl, _⟩ := h.shape
  have HN : Hid ((entRows l).length = l.length) := Lib.hid (entRows_length l)
  clear hd hl
  cases a with
  | none =>
    have hz : l = [] := by
      cases l with
      | nil => rfl
      | cons p r =>
        obtain ⟨b, o, e, _⟩ := h.at (j := 0) (by simp [entRows])
        cases e
    subst hz
    clear h
    rw [show (entRows ([] : EntR)).length = 0 from rfl]
    have h0 := fun w => Lib.run_eql_slice_nil (P := Tryz.prog) w 23 38 none 0 c 0 0 Tryz.underlying23
    go_enter Tryz.func116, Tryz.ntmps116
    go_wp2_with fail
    go_ret
    exact ⟨_, rfl, OwnL.nil _ _ _, Below.refl _ _, nofun⟩
  | some ad =>
    have h0 := fun w => Lib.run_eql_slice_nil (P := Tryz.prog) w 23 38 (some ad) (entRows l).length c 0 0 Tryz.underlying23
    clear h
    generalize hq : (entRows l).length = q at *
    have HQ := Lib.hid hq
    clear hq
    go_enter Tryz.func116, Tryz.ntmps116
    go_wp2_with (at_builtin; go_loud (refine wpList_append_ownl entry3 _ _ rfl (.slice (some ⟨w.heap.size, 0, none⟩) 0 0) (.slice (some ad) q c) [] (entRows l) rfl rfl (OwnL.made (heap_alloc_new _ _)) (H.out.below ((Below.refl _ _).alloc (Nat.le_refl _) _)) (entRows_each l) HD.out.oneCell (entRows_no8 HD.out) entry8 (by have := HL.out; have := HN.out; have := HQ.out; simp only [List.length_nil]; omega) rfl ?_; intro v2 w2 ho2 hg2 hat2; have O2 := Lib.hid ho2; have G2 := Lib.hid hg2; have A2 := Lib.hid hat2; clear ho2 hg2 hat2))
    go_ret
    have ho : ∀ b, v2.ownBlock = some b → w.heap.size ≤ b := fun b hb => by
      rcases A2.out with e | e
      · rw [e] at hb
        obtain rfl := Option.some.inj hb
        exact Nat.le_refl _
      · rw [e] at hb
        obtain rfl := Option.some.inj hb
        simp
    refine ⟨v2, rfl, by have h := O2.out; rw [List.nil_append] at h; exact h, ?_, ho⟩
    exact ((Below.refl _ _).alloc (Nat.le_refl _) _).grown G2.out (by simp) (fun g hg => by obtain rfl := Option.some.inj hg; exact Nat.le_refl _)
set_option maxHeartbeats 1600000 in
set_option maxRecDepth 20000 in
theorem fclone_any (v : Value) (l : List WF) (w : World) (h : SRow w 3 v (l.map wfRow)) (hl : l.length ≤ 2147483648) :
    Calls Tryz.prog 121 #[v] w fun e w' => ∃ v', e = .returned v' ∧ OwnL w' 188 3 v' (l.map wfRow) ∧ Below w.heap.size w w' ∧ ∀ b, v'.ownBlock = some b → w.heap.size ≤ b := by
  have H := Lib.hid h
  have HL := Lib.hid hl
  obtain ⟨a, c, rfl, _⟩ := h.shape
  have HN : Hid ((l.map wfRow).length = l.length) := Lib.hid (List.length_map ..)
  clear hl
  cases a with
  | none =>
    have hz : l = [] := by
      cases l with
      | nil => rfl
      | cons p r =>
        obtain ⟨b, o, e, _⟩ := h.at (j := 0) (by simp)
        cases e
    subst hz
    clear h
    rw [show (List.map wfRow ([] : List WF)).length = 0 from rfl]
    have h0 := fun w => Lib.run_eql_slice_nil (P := Tryz.prog) w 32 188 none 0 c 0 0 Tryz.underlying32
    go_enter Tryz.func121, Tryz.ntmps121
    go_wp2_with fail
    go_ret
    exact ⟨_, rfl, OwnL.nil _ _ _, Below.refl _ _, nofun⟩
  | some ad =>
    have h0 := fun w => Lib.run_eql_slice_nil (P := Tryz.prog) w 32 188 (some ad) (l.map wfRow).length c 0 0 Tryz.underlying32
    clear h
    generalize hq : (l.map wfRow).length = q at *
    have HQ := Lib.hid hq
    clear hq
    go_enter Tryz.func121, Tryz.ntmps121
    go_wp2_with (at_builtin; go_loud (refine wpList_append_ownl wfile3 _ _ rfl (.slice (some ⟨w.heap.size, 0, none⟩) 0 0) (.slice (some ad) q c) [] (l.map wfRow) rfl rfl (OwnL.made (heap_alloc_new _ _)) (H.out.below ((Below.refl _ _).alloc (Nat.le_refl _) _)) (wfRow_each l) (wfRow_one l) (wfRow_no8 l) wfile8 (by have := HL.out; have := HN.out; have := HQ.out; simp only [List.length_nil]; omega) rfl ?_; intro v2 w2 ho2 hg2 hat2; have O2 := Lib.hid ho2; have G2 := Lib.hid hg2; have A2 := Lib.hid hat2; clear ho2 hg2 hat2))
    go_ret
    have ho : ∀ b, v2.ownBlock = some b → w.heap.size ≤ b := fun b hb => by
      rcases A2.out with e | e
      · rw [e] at hb
        obtain rfl := Option.some.inj hb
        exact Nat.le_refl _
      · rw [e] at hb
        obtain rfl := Option.some.inj hb
        simp
    refine ⟨v2, rfl, by have h := O2.out; rw [List.nil_append] at h; exact h, ?_, ho⟩
    exact ((Below.refl _ _).alloc (Nat.le_refl _) _).grown G2.out (by simp) (fun g hg => by obtain rfl := Option.some.inj hg; exact Nat.le_refl _)
end Go.Proofs.YtjdglpcnkiioeaaGreat

/- What a write of the vow leaves of its file, well or not; plain. -/
namespace Go.Proofs.YtjdglpcnkiioeaaGreat
open Go.RowKit Go.Maps Go.Proofs.Own

theorem stepD_down {D : DiskS} (hd : D.down = false) : (stepD D).down = true ↔ D.armed = 0 := by
  unfold stepD
  by_cases h : D.armed = 0
  · rw [if_pos h]; simp [h]
  · rw [if_neg h]
    split <;> simp [h, hd]
theorem stepD_up {D : DiskS} (hd : D.down = false) (ha : ¬ D.armed = 0) : (stepD D).down = false := by
  have := (not_congr (stepD_down hd)).2 ha
  simpa using this
end Go.Proofs.YtjdglpcnkiioeaaGreat

/- What a log's pieces are on a disk, and what each call leaves of them; plain. -/
namespace Go.Proofs.YtjdglpcnkiioeaaGreat
open Go.RowKit Go.Maps Go.Proofs.Own Go.Shelf

theorem nameLt_trans {a b c : ByteArray} (h : nameLt a b = true) (g : nameLt b c = true) : nameLt a c = true := WideShapes.bytes_trans _ _ _ h g
theorem filter_ins_yes {f : FileS} (h : isW f = true) : ∀ {L : List FileS}, Rising L → (insFile f L).filter isW = insFile f (L.filter isW)
  | [], _ => by simp [insFile, h]
  | g :: r, hr => by
    obtain ⟨h1, h2⟩ := List.pairwise_cons.1 hr
    have ih := filter_ins_yes h h2
    by_cases hl : nameLt f.name g.name = true
    · have hi : ∀ M : List FileS, (∀ x ∈ M, nameLt f.name x.name = true) → insFile f M = f :: M := fun M hM => by
        cases M with
        | nil => rfl
        | cons x s =>
          unfold insFile
          rw [if_pos (hM x (List.mem_cons_self ..))]
      rw [hi (g :: r) (fun x hx => by
        rcases List.mem_cons.1 hx with rfl | hx
        · exact hl
        · exact nameLt_trans hl (h1 x hx)), List.filter_cons_of_pos h, hi _ (fun x hx => by
        rcases List.mem_cons.1 (List.mem_filter.1 hx).1 with rfl | hx
        · exact hl
        · exact nameLt_trans hl (h1 x hx))]
    · have hi : ∀ M : List FileS, insFile f (g :: M) = g :: insFile f M := fun M => by
        conv => lhs; unfold insFile
        rw [if_neg hl]
      rw [hi]
      by_cases hg : isW g = true
      · rw [List.filter_cons_of_pos hg, List.filter_cons_of_pos hg, hi, ih]
      · rw [List.filter_cons_of_neg hg, List.filter_cons_of_neg hg, ih]
theorem filter_put_yes {f : FileS} (h : isW f = true) {L : List FileS} (hr : Rising L) : (putFile f L).filter isW = putFile f (L.filter isW) := by
  unfold putFile
  rw [filter_ins_yes (L := delFile f.name L) h (List.Pairwise.sublist (List.filter_sublist ..) hr), filter_del]
theorem find_filter {n : ByteArray} (h : firstN (natsOf n) ≠ 0) (L : List FileS) : findFile n (L.filter isW) = findFile n L := by
  unfold findFile
  rw [List.find?_filter]
  congr 1
  funext g
  by_cases e : g.name = n
  · have : isW g = true := by unfold isW; rw [e]; exact decide_eq_true h
    simp [this]
  · simp [e]
-- THE PIECES
/-- A piece: its first index, its entries, how many bytes are kept. -/
structure Pc where
  f : Nat
  es : List EntS
  k : Nat
def Pc.w (p : Pc) : List Nat := segW p.f p.es
def Pc.file (p : Pc) : FileS := ⟨nameW p.f, p.w, p.k⟩
def Pc.wf (p : Pc) : WF := ⟨p.f, p.es.length, p.w.length⟩
def esOf (P : List Pc) : List EntS := P.flatMap Pc.es
/-- They follow one another. -/
def Chain : Nat → List Pc → Prop
  | _, [] => True
  | n, p :: r => p.f = n ∧ Chain (n + p.es.length) r
theorem esOf_app (A B : List Pc) : esOf (A ++ B) = esOf A ++ esOf B := List.flatMap_append
theorem esOf_one (p : Pc) : esOf [p] = p.es := List.append_nil _
theorem esOf_cons (p : Pc) (r : List Pc) : esOf (p :: r) = p.es ++ esOf r := rfl
theorem Chain.app {A B : List Pc} : ∀ {n : Nat}, Chain n (A ++ B) ↔ Chain n A ∧ Chain (n + (esOf A).length) B := by
  induction A with
  | nil => intro n; simp [Chain, esOf]
  | cons p r ih =>
    intro n
    simp only [List.cons_append, Chain, ih, esOf_cons, List.length_append, Nat.add_assoc, and_assoc]
theorem Chain.range {P : List Pc} : ∀ {n : Nat}, Chain n P → ∀ p ∈ P, n ≤ p.f ∧ p.f + p.es.length ≤ n + (esOf P).length := by
  induction P with
  | nil => intro n _ p hp; cases hp
  | cons q r ih =>
    intro n h p hp
    rw [esOf_cons, List.length_append]
    rcases List.mem_cons.1 hp with rfl | hp
    · have := h.1; omega
    · have := ih h.2 p hp
      omega
/-- A disk's files that are a log's, and the log. -/
structure WInv (D : DiskS) (L : WalS) (P : List Pc) : Prop where
  fil : logF D = P.map Pc.file
  fs : L.fs = P.map Pc.wf
  es : L.es = esOf P
  ch : Chain (L.b + 1) P
  ok : ∀ e ∈ L.es, e.ok
  hi : L.b + L.es.length ≤ H59
  full : ∀ p ∈ P.dropLast, p.k = p.w.length ∧ 1024 ≤ p.w.length ∧ p.es ≠ []
  safe : L.safe ≤ L.es.length
  kept : ∀ A z, P = A ++ [z] → (esOf A).length ≤ L.safe ∧ ((z.k = 0 ∧ L.safe = (esOf A).length ∧ z.es ≠ []) ∨ ∃ j, j ≤ z.es.length ∧ L.safe ≤ (esOf A).length + j ∧ z.k = (segW z.f (z.es.take j)).length)
  lo : L.b < H59 ∧ ∀ p ∈ P, p.f ≤ H59
end Go.Proofs.YtjdglpcnkiioeaaGreat

/- What the disk's calls and a log's pop and sync leave of its pieces; plain. -/
namespace Go.Proofs.YtjdglpcnkiioeaaGreat
open Go.RowKit Go.Maps Go.Proofs.Own Go.Shelf

theorem nameLt_total {a b : ByteArray} (h : a ≠ b) : nameLt a b = true ∨ nameLt b a = true := by
  refine WideAt.bytes_total _ _ fun e => h ?_
  cases a with
  | mk x => cases b with
    | mk y =>
      simp only at e
      rw [Array.toList_inj.1 e]
theorem Rising.del {L : List FileS} (h : Rising L) (n : ByteArray) : Rising (delFile n L) := List.Pairwise.sublist (List.filter_sublist ..) h
theorem Rising.ins {f : FileS} : ∀ {L : List FileS}, Rising L → (∀ g ∈ L, ¬ g.name = f.name) → Rising (insFile f L)
  | [], _, _ => List.pairwise_singleton _ _
  | g :: r, h, hn => by
    obtain ⟨h1, h2⟩ := List.pairwise_cons.1 h
    unfold insFile
    by_cases hl : nameLt f.name g.name = true
    · rw [if_pos hl]
      refine List.pairwise_cons.2 ⟨fun x hx => ?_, h⟩
      rcases List.mem_cons.1 hx with rfl | hx
      · exact hl
      · exact nameLt_trans hl (h1 x hx)
    · rw [if_neg hl]
      refine List.pairwise_cons.2 ⟨fun x hx => ?_, Rising.ins h2 fun x hx => hn x (List.mem_cons_of_mem _ hx)⟩
      rcases mem_ins.1 hx with rfl | hx
      · rcases nameLt_total (hn g (List.mem_cons_self ..)) with e | e
        · exact e
        · exact absurd e hl
      · exact h1 x hx
theorem Rising.put {L : List FileS} (h : Rising L) (f : FileS) : Rising (putFile f L) := Rising.ins (h.del _) fun _g hg => (mem_del.1 hg).2
theorem rising_logF {D : DiskS} (h : Rising D.files) : Rising (logF D) := List.Pairwise.sublist (List.filter_sublist ..) h
-- THE DISK'S CALLS
theorem remove_cases {D : DiskS} {n : ByteArray} {f : FileS} (hd : D.down = false) (hf : findFile n D.files = some f) :
    ((removeD D n).2 = 50 ∧ (removeD D n).1.down = true ∧ (removeD D n).1.files = D.files) ∨ ((removeD D n).2 = 0 ∧ (removeD D n).1.down = false ∧ (removeD D n).1.files = delFile n D.files) := by
  unfold removeD
  rw [hf]
  simp only
  rw [if_neg (by rw [hd]; decide)]
  by_cases ha : D.armed = 0
  · rw [if_pos ha]
    exact .inl ⟨rfl, (stepD_down hd).2 ha, stepD_files D⟩
  · rw [if_neg ha]
    exact .inr ⟨rfl, stepD_up hd ha, rfl⟩
theorem sync_cases {D : DiskS} {n : ByteArray} {f : FileS} (hd : D.down = false) (hf : findFile n D.files = some f) :
    ((syncD D n).2 = 50 ∧ (syncD D n).1.down = true ∧ (syncD D n).1.files = D.files) ∨ ((syncD D n).2 = 0 ∧ (syncD D n).1.down = false ∧ (syncD D n).1.files = putFile { f with kept := f.all.length } D.files) := by
  unfold syncD
  rw [hf]
  simp only
  rw [if_neg (by rw [hd]; decide)]
  by_cases ha : D.armed = 0
  · rw [if_pos ha]
    exact .inl ⟨rfl, (stepD_down hd).2 ha, stepD_files D⟩
  · rw [if_neg ha]
    exact .inr ⟨rfl, stepD_up hd ha, rfl⟩
theorem cut_cases {D : DiskS} {n : ByteArray} {f : FileS} {k : Nat} (hd : D.down = false) (hf : findFile n D.files = some f) (hk : k ≤ f.all.length) :
    ((cutD D n k).2 = 50 ∧ (cutD D n k).1.down = true ∧ (cutD D n k).1.files = D.files) ∨ ((cutD D n k).2 = 0 ∧ (cutD D n k).1.down = false ∧ (cutD D n k).1.files = putFile ⟨f.name, f.all.take k, min f.kept k⟩ D.files) := by
  unfold cutD
  rw [hf]
  simp only
  rw [if_neg (by rw [hd]; decide), if_neg (by omega), Int.toNat_natCast]
  by_cases ha : D.armed = 0
  · rw [if_pos ha]
    exact .inl ⟨rfl, (stepD_down hd).2 ha, stepD_files D⟩
  · rw [if_neg ha]
    exact .inr ⟨rfl, stepD_up hd ha, rfl⟩
theorem append_cases {D : DiskS} {n : ByteArray} {b : List Nat} (hd : D.down = false) :
    ((appendD D n b).2 ≠ 0 ∧ (appendD D n b).1 = D) ∨ (appendD D n b).1.files = putFile { getF D n with all := (getF D n).all ++ b } D.files ∧ (((appendD D n b).2 = 50 ∧ (appendD D n b).1.down = true) ∨ ((appendD D n b).2 = 0 ∧ (appendD D n b).1.down = false)) := by
  unfold appendD
  by_cases h : appE D n b ≠ 0
  · rw [if_pos h]
    exact .inl ⟨h, rfl⟩
  · rw [if_neg h]
    refine .inr ⟨stepD_files _, ?_⟩
    show (stepE D = 50 ∧ (stepD (appD D n b)).down = true) ∨ (stepE D = 0 ∧ (stepD (appD D n b)).down = false)
    have h1 : (appD D n b).down = false := hd
    have h2 : (appD D n b).armed = D.armed := rfl
    unfold stepE
    by_cases ha : D.armed = 0
    · rw [if_pos ha]
      exact .inl ⟨rfl, (stepD_down h1).2 (h2.trans ha)⟩
    · rw [if_neg ha]
      exact .inr ⟨rfl, stepD_up h1 (fun e => ha (h2.symm.trans e))⟩
-- A PIECE AMONG A DISK'S FILES
theorem isW_piece {p : Pc} (h : 1 ≤ p.f ∧ p.f < 1152921504606846976) : isW p.file = true := by
  unfold isW
  show decide (firstN (natsOf (nameW p.f)) ≠ 0) = true
  rw [first_nameW h.1 h.2]
  exact decide_eq_true (by omega)
theorem isW_name {n : Nat} (h : 1 ≤ n ∧ n < 1152921504606846976) : firstN (natsOf (nameW n)) ≠ 0 := by
  rw [first_nameW h.1 h.2]
  omega
theorem log_mid {D : DiskS} {A B : List Pc} {z : Pc} (hr : Rising D.files) (hf : logF D = (A ++ z :: B).map Pc.file) : Rising (A.map Pc.file ++ z.file :: B.map Pc.file) := by
  have := rising_logF hr
  rw [hf] at this
  simpa using this
theorem log_find {D : DiskS} {A B : List Pc} {z : Pc} (hr : Rising D.files) (hf : logF D = (A ++ z :: B).map Pc.file) (hz : 1 ≤ z.f ∧ z.f < 1152921504606846976) : findFile (nameW z.f) D.files = some z.file := by
  rw [← find_filter (isW_name hz)]
  show findFile z.file.name (logF D) = _
  rw [hf]
  simpa using find_mid (log_mid hr hf)
theorem log_del {D : DiskS} {A B : List Pc} {z : Pc} (hr : Rising D.files) (hf : logF D = (A ++ z :: B).map Pc.file) : (delFile (nameW z.f) D.files).filter isW = (A ++ B).map Pc.file := by
  rw [filter_del]
  show delFile z.file.name (logF D) = _
  rw [hf]
  simpa using del_mid (log_mid hr hf)
theorem log_put {D : DiskS} {A B : List Pc} {z z' : Pc} (hr : Rising D.files) (hf : logF D = (A ++ z :: B).map Pc.file) (hz : 1 ≤ z.f ∧ z.f < 1152921504606846976) (he : z'.f = z.f) : (putFile z'.file D.files).filter isW = (A ++ z' :: B).map Pc.file := by
  rw [filter_put_yes (isW_piece (by rw [he]; exact hz)) hr]
  show putFile z'.file (logF D) = _
  rw [hf]
  have := put_mid (f' := z'.file) (log_mid hr hf) (by show nameW z'.f = nameW z.f; rw [he])
  simpa using this
theorem log_new {D : DiskS} {P : List Pc} {z : Pc} (hr : Rising D.files) (hf : logF D = P.map Pc.file) (hz : 1 ≤ z.f ∧ z.f < 1152921504606846976) (hl : ∀ p ∈ P, 1 ≤ p.f ∧ p.f < z.f) :
    findFile (nameW z.f) D.files = none ∧ (putFile z.file D.files).filter isW = (P ++ [z]).map Pc.file := by
  have hlt : ∀ g ∈ P.map Pc.file, nameLt g.name z.file.name = true := fun g hg => by
    obtain ⟨p, hp, rfl⟩ := List.mem_map.1 hg
    have := hl p hp
    exact nameW_mono (by omega) (by omega) hz.2
  have hne : ∀ g ∈ P.map Pc.file, ¬ g.name = z.file.name := fun g hg => nameLt_ne (hlt g hg)
  refine ⟨?_, ?_⟩
  · rw [← find_filter (isW_name hz)]
    show findFile z.file.name (logF D) = none
    rw [hf]
    exact find_none hne
  · rw [filter_put_yes (isW_piece hz) hr]
    show insFile z.file (delFile z.file.name (logF D)) = _
    rw [hf]
    have hd : delFile z.file.name (P.map Pc.file) = P.map Pc.file := by
      unfold delFile
      exact List.filter_eq_self.2 fun g hg => by simpa using hne g hg
    rw [hd]
    have := ins_mid (f := z.file) (A := P.map Pc.file) (B := []) hlt (by intro g hg; cases hg)
    simpa using this
end Go.Proofs.YtjdglpcnkiioeaaGreat

/- What a log's calls leave of its pieces: pop, sync, reset, drop; plain. -/
namespace Go.Proofs.YtjdglpcnkiioeaaGreat
open Go.RowKit Go.Maps Go.Proofs.Own Go.Shelf

theorem WInv.same {D D' : DiskS} {L : WalS} {P : List Pc} (h : WInv D L P) (hf : D'.files = D.files) : WInv D' L P :=
  ⟨by have := h.fil; unfold logF at this ⊢; rw [hf]; exact this, h.fs, h.es, h.ch, h.ok, h.hi, h.full, h.safe, h.kept, h.lo⟩
theorem lo_put {b : Nat} {A : List Pc} {z z' : Pc} (h : b < H59 ∧ ∀ p ∈ A ++ [z], p.f ≤ H59) (e : z'.f = z.f) : b < H59 ∧ ∀ p ∈ A ++ [z'], p.f ≤ H59 := by
  refine ⟨h.1, fun p hp => ?_⟩
  rcases List.mem_append.1 hp with hp | hp
  · exact h.2 p (List.mem_append_left _ hp)
  · obtain rfl := List.mem_singleton.1 hp
    rw [e]
    exact h.2 z (List.mem_append_right _ (List.mem_singleton_self z))
theorem WInv.range {D : DiskS} {L : WalS} {P : List Pc} (h : WInv D L P) : ∀ p ∈ P, 1 ≤ p.f ∧ p.f < 1152921504606846976 ∧ L.b + 1 ≤ p.f ∧ p.f + p.es.length ≤ L.last + 1 := by
  intro p hp
  have h1 := h.ch.range p hp
  have h2 := h.hi
  have h3 := h.es
  rw [← h3] at h1
  unfold H59 at h2
  unfold WalS.last
  omega
theorem WInv.in60 {D : DiskS} {L : WalS} {P : List Pc} (h : WInv D L P) {p : Pc} (hp : p ∈ P) : 1 ≤ p.f ∧ p.f < 1152921504606846976 := let ⟨a, b, _⟩ := h.range p hp; ⟨a, b⟩
theorem fs_last {D : DiskS} {L : WalS} {A : List Pc} {z : Pc} (h : WInv D L (A ++ [z])) : L.fs.getLast? = some z.wf ∧ L.fs.dropLast = A.map Pc.wf := by
  rw [h.fs, List.map_append]
  simp
theorem WInv.safeAt {D : DiskS} {L : WalS} {A : List Pc} {z : Pc} (h : WInv D L (A ++ [z])) : (esOf A).length ≤ L.safe := (h.kept A z rfl).1
theorem split_last {P : List Pc} (h : P ≠ []) : ∃ A z, P = A ++ [z] := ⟨P.dropLast, P.getLast h, (List.dropLast_concat_getLast h).symm⟩
/-- Pieces that are kept in full, behind which nothing is. -/
theorem kept_full {A : List Pc} {n : Nat} (hfull : ∀ p ∈ A, p.k = p.w.length ∧ 1024 ≤ p.w.length ∧ p.es ≠ []) (hn : n = (esOf A).length) :
    ∀ B z, A = B ++ [z] → (esOf B).length ≤ n ∧ ((z.k = 0 ∧ n = (esOf B).length ∧ z.es ≠ []) ∨ ∃ j, j ≤ z.es.length ∧ n ≤ (esOf B).length + j ∧ z.k = (segW z.f (z.es.take j)).length) := by
  intro B z e
  subst e
  have h1 := hfull z (List.mem_append_right _ (List.mem_singleton_self z))
  rw [esOf_app, esOf_one, List.length_append] at hn
  refine ⟨by omega, .inr ⟨z.es.length, Nat.le_refl _, by omega, ?_⟩⟩
  rw [List.take_length, h1.1]
  rfl
/-- The last file goes. -/
theorem pop_law {D : DiskS} {L : WalS} {A : List Pc} {z : Pc} (h : WInv D L (A ++ [z])) (hd : D.down = false) (hr : Rising D.files) :
    ((popW D L).2.2 = 50 ∧ (popW D L).1.down = true ∧ (popW D L).2.1 = L ∧ WInv (popW D L).1 L (A ++ [z])) ∨
    ((popW D L).2.2 = 0 ∧ (popW D L).1.down = false ∧ Rising (popW D L).1.files ∧ WInv (popW D L).1 (popW D L).2.1 A ∧ (popW D L).2.1.b = L.b ∧ (popW D L).2.1.safe = (esOf A).length) := by
  have hz : z ∈ A ++ [z] := List.mem_append_right _ (List.mem_singleton_self z)
  have hf := log_find hr h.fil (h.in60 hz)
  have hg := fs_last h
  have hfull : ∀ p ∈ A, p.k = p.w.length ∧ 1024 ≤ p.w.length ∧ p.es ≠ [] := by have := h.full; rwa [List.dropLast_concat] at this
  unfold popW
  rw [hg.1]
  simp only
  rcases remove_cases hd hf with ⟨h1, h2, h3⟩ | ⟨h1, h2, h3⟩
  · have h1' : (removeD D (nameW z.wf.f)).2 = 50 := h1
    rw [if_pos (by rw [h1']; decide)]
    exact .inl ⟨h1', h2, rfl, h.same h3⟩
  · have h1' : (removeD D (nameW z.wf.f)).2 = 0 := h1
    rw [if_neg (by rw [h1']; decide), hg.2]
    have hel : L.es.length - z.wf.m = (esOf A).length := by
      show L.es.length - z.es.length = _
      rw [h.es, esOf_app, esOf_one, List.length_append]
      omega
    have htk : L.es.take (L.es.length - z.wf.m) = esOf A := by
      rw [hel, h.es, esOf_app]
      exact List.take_left' rfl
    have hsf : min L.safe (L.es.length - z.wf.m) = (esOf A).length := by
      rw [hel]
      have := h.safeAt
      omega
    rw [htk, hsf]
    refine .inr ⟨rfl, h2, ?_, ⟨?_, rfl, rfl, (Chain.app.1 h.ch).1, ?_, ?_, ?_, Nat.le_refl _, kept_full hfull rfl, ⟨h.lo.1, fun p hp => h.lo.2 p (List.mem_append_left _ hp)⟩⟩, rfl, rfl⟩
    · show Rising (removeD D (nameW z.f)).1.files
      rw [h3]
      exact hr.del _
    · show (removeD D (nameW z.f)).1.files.filter isW = _
      rw [h3]
      have := log_del hr h.fil
      rwa [List.append_nil] at this
    · intro e he
      refine h.ok e ?_
      rw [h.es, esOf_app]
      exact List.mem_append_left _ he
    · have := h.hi
      rw [h.es, esOf_app, List.length_append] at this
      show L.b + (esOf A).length ≤ H59
      omega
    · intro p hp
      exact hfull p ((List.dropLast_sublist A).subset hp)
/-- All files go. -/
theorem reset_law {base : Nat} (hb : base < H59) : ∀ (n : Nat) {D : DiskS} {L : WalS} {P : List Pc}, WInv D L P → D.down = false → Rising D.files → P.length ≤ n →
    ((resetF base n D L).2.2 = 50 ∧ (resetF base n D L).1.down = true ∧ (∃ P', WInv (resetF base n D L).1 (resetF base n D L).2.1 P')) ∨
    ((resetF base n D L).2.2 = 0 ∧ (resetF base n D L).1.down = false ∧ Rising (resetF base n D L).1.files ∧ WInv (resetF base n D L).1 (resetF base n D L).2.1 [] ∧ (resetF base n D L).2.1 = ⟨base, [], [], 0⟩) := by
  have hend : ∀ {D : DiskS} {L : WalS}, WInv D L [] → WInv D ⟨base, [], [], 0⟩ [] := fun {D L} h =>
    ⟨h.fil, rfl, rfl, trivial, (fun e he => by cases he), (by show base + 0 ≤ H59; omega), (fun p hp => by cases hp), Nat.le_refl _, (fun A z e => by cases A <;> cases e), hb, (fun p hp => by cases hp)⟩
  intro n
  induction n with
  | zero =>
    intro D L P h hd hr hn
    obtain rfl := List.length_eq_zero_iff.1 (Nat.le_zero.1 hn)
    exact .inr ⟨rfl, hd, hr, hend h, rfl⟩
  | succ n ih =>
    intro D L P h hd hr hn
    unfold resetF
    by_cases hP : P = []
    · subst hP
      have hfs : L.fs = [] := h.fs
      rw [if_pos hfs]
      exact .inr ⟨rfl, hd, hr, hend h, rfl⟩
    · obtain ⟨A, z, rfl⟩ := split_last hP
      have hfs : ¬ L.fs = [] := by
        rw [h.fs]
        simp
      rw [if_neg hfs]
      rcases pop_law h hd hr with ⟨h1, h2, h3, h4⟩ | ⟨h1, h2, h3, h4, h5, _⟩
      · rw [if_pos (by rw [h1]; decide)]
        refine .inl ⟨h1, h2, A ++ [z], ?_⟩
        rw [h3]
        exact h4
      · rw [if_neg (by rw [h1]; decide)]
        exact ih h4 h2 h3 (by rw [List.length_append] at hn; simpa using hn)
/-- All that is written is safe, or the power's end is told. -/
theorem sync_law {D : DiskS} {L : WalS} {P : List Pc} (h : WInv D L P) (hd : D.down = false) (hr : Rising D.files) :
    ((syncW D L).2.2 = 50 ∧ (syncW D L).1.down = true ∧ (syncW D L).2.1 = L ∧ WInv (syncW D L).1 L P) ∨
    ((syncW D L).2.2 = 0 ∧ (syncW D L).1.down = false ∧ Rising (syncW D L).1.files ∧ (syncW D L).2.1 = { L with safe := L.es.length } ∧
      ∃ P', WInv (syncW D L).1 { L with safe := L.es.length } P' ∧ P'.map Pc.wf = P.map Pc.wf ∧ ∀ p ∈ P', p.k = p.w.length) := by
  unfold syncW
  by_cases hs : L.safe = L.es.length
  · rw [if_pos hs]
    have hL : L = { L with safe := L.es.length } := by rw [← hs]
    refine .inr ⟨rfl, hd, hr, hL, P, by rw [← hL]; exact h, rfl, ?_⟩
    by_cases hP : P = []
    · subst hP
      intro p hp
      cases hp
    · obtain ⟨A, z, rfl⟩ := split_last hP
      have hfull : ∀ p ∈ A, p.k = p.w.length ∧ 1024 ≤ p.w.length ∧ p.es ≠ [] := by have := h.full; rwa [List.dropLast_concat] at this
      have hel : L.es.length = (esOf A).length + z.es.length := by rw [h.es, esOf_app, esOf_one, List.length_append]
      intro p hp
      rcases List.mem_append.1 hp with hp | hp
      · exact (hfull p hp).1
      · obtain rfl := List.mem_singleton.1 hp
        obtain ⟨_, ⟨h1, h2, h3⟩ | ⟨j, h1, h2, h3⟩⟩ := h.kept A p rfl
        · exact absurd (List.length_eq_zero_iff.1 (by omega)) h3
        · have hj : j = p.es.length := by omega
          rw [h3, hj, List.take_length]
          rfl
  · rw [if_neg hs]
    have hP : P ≠ [] := by
      rintro rfl
      have h1 := h.es
      have h2 := h.safe
      rw [h1] at h2 hs
      exact hs (Nat.le_antisymm h2 (Nat.zero_le _))
    obtain ⟨A, z, rfl⟩ := split_last hP
    have hz : z ∈ A ++ [z] := List.mem_append_right _ (List.mem_singleton_self z)
    have hf := log_find hr h.fil (h.in60 hz)
    have hg := fs_last h
    have hfull : ∀ p ∈ A, p.k = p.w.length ∧ 1024 ≤ p.w.length ∧ p.es ≠ [] := by have := h.full; rwa [List.dropLast_concat] at this
    rw [hg.1]
    simp only
    rcases sync_cases hd hf with ⟨h1, h2, h3⟩ | ⟨h1, h2, h3⟩
    · have h1' : (syncD D (nameW z.wf.f)).2 = 50 := h1
      rw [if_pos (by rw [h1']; decide)]
      exact .inl ⟨h1', h2, rfl, h.same h3⟩
    · have h1' : (syncD D (nameW z.wf.f)).2 = 0 := h1
      rw [if_neg (by rw [h1']; decide)]
      have hwf : (A ++ [(⟨z.f, z.es, z.w.length⟩ : Pc)]).map Pc.wf = (A ++ [z]).map Pc.wf := by
        rw [List.map_append, List.map_append]
        rfl
      have hes : esOf (A ++ [(⟨z.f, z.es, z.w.length⟩ : Pc)]) = esOf (A ++ [z]) := by
        rw [esOf_app, esOf_app]
        rfl
      refine .inr ⟨rfl, h2, ?_, rfl, A ++ [⟨z.f, z.es, z.w.length⟩], ⟨?_, ?_, ?_, ?_, h.ok, h.hi, ?_, Nat.le_refl _, ?_, lo_put h.lo rfl⟩, hwf, ?_⟩
      · show Rising (syncD D (nameW z.f)).1.files
        rw [h3]
        exact hr.put _
      · show (syncD D (nameW z.f)).1.files.filter isW = _
        rw [h3]
        exact log_put (z' := ⟨z.f, z.es, z.w.length⟩) hr h.fil (h.in60 hz) rfl
      · rw [hwf]
        exact h.fs
      · rw [hes]
        exact h.es
      · have := Chain.app.1 h.ch
        exact Chain.app.2 ⟨this.1, this.2.1, trivial⟩
      · rw [List.dropLast_concat]
        exact hfull
      · intro B y e
        obtain ⟨rfl, e2⟩ := List.append_inj' e rfl
        obtain rfl := List.singleton_inj.1 e2
        have hel : L.es.length = (esOf A).length + z.es.length := by rw [h.es, esOf_app, esOf_one, List.length_append]
        refine ⟨by show (esOf A).length ≤ L.es.length; omega, .inr ⟨z.es.length, Nat.le_refl _, by show L.es.length ≤ (esOf A).length + z.es.length; omega, ?_⟩⟩
        show z.w.length = (segW z.f (z.es.take z.es.length)).length
        rw [List.take_length]
        rfl
      · intro p hp
        rcases List.mem_append.1 hp with hp | hp
        · exact (hfull p hp).1
        · obtain rfl := List.mem_singleton.1 hp
          rfl
end Go.Proofs.YtjdglpcnkiioeaaGreat

/- What a log's Append leaves of its pieces; plain. -/
namespace Go.Proofs.YtjdglpcnkiioeaaGreat
open Go.RowKit Go.Maps Go.Proofs.Own Go.Shelf

/-- The power stays, and the log is its pieces. -/
def OpUp (r : DiskS × WalS × Nat) : Prop := r.1.down = false ∧ Rising r.1.files ∧ ∃ P, WInv r.1 r.2.1 P
/-- The power ends: the pieces are the log's, or have besides, loose, what was being written. -/
def OpDn (ms : List EntS) (r : DiskS × WalS × Nat) : Prop := r.1.down = true ∧ r.2.2 = 50 ∧ ∃ L P, WInv r.1 L P ∧ L.b = r.2.1.b ∧ L.safe = r.2.1.safe ∧ (L.es = r.2.1.es ∨ L.es = r.2.1.es ++ ms)
theorem linesW_app : ∀ (a b : List EntS) (i : Nat), linesW i (a ++ b) = linesW i a ++ linesW (i + a.length) b
  | [], b, i => rfl
  | e :: a, b, i => by
    show lineW i e ++ linesW (i + 1) (a ++ b) = (lineW i e ++ linesW (i + 1) a) ++ linesW (i + (a.length + 1)) b
    rw [linesW_app a b (i + 1), List.append_assoc, show i + 1 + a.length = i + (a.length + 1) by omega]
theorem segW_app (f : Nat) (a b : List EntS) : segW f (a ++ b) = segW f a ++ linesW (f + a.length) b := by
  unfold segW
  rw [linesW_app, List.append_assoc]
theorem headW_short {n : Nat} (h : n ≤ 1152921504606846976) : (headW n).length ≤ 28 ∧ 8 ≤ (headW n).length := by
  have := numW_len (n := n) (by omega)
  unfold headW
  rw [length_frP]
  omega
theorem leftW_le {n m : Nat} (hn : n ≤ H59) (h : ¬ leftW n < m) : n + m ≤ H59 := by
  unfold leftW H59 at *
  omega
/-- Entries behind the last piece's. -/
theorem add_law {D : DiskS} {L : WalS} {A : List Pc} {z : Pc} (h : WInv D L (A ++ [z])) (hd : D.down = false) (hr : Rising D.files) {ms : List EntS} (hok : ∀ e ∈ ms, e.ok) (hi : L.last + ms.length ≤ H59) :
    OpUp (addW D L z.wf ms) ∨ OpDn ms (addW D L z.wf ms) := by
  have hz : z ∈ A ++ [z] := List.mem_append_right _ (List.mem_singleton_self z)
  have hf := log_find hr h.fil (h.in60 hz)
  have hg := fs_last h
  have hel : L.es.length = (esOf A).length + z.es.length := by rw [h.es, esOf_app, esOf_one, List.length_append]
  have hzf : z.f = L.b + 1 + (esOf A).length := (Chain.app.1 h.ch).2.1
  have hnx : z.f + z.es.length = L.last + 1 := by unfold WalS.last; omega
  have hw : z.w ++ linesW (L.last + 1) ms = segW z.f (z.es ++ ms) := by
    rw [segW_app, hnx]
    rfl
  have hes : esOf (A ++ [(⟨z.f, z.es ++ ms, z.k⟩ : Pc)]) = L.es ++ ms := by
    rw [esOf_app, esOf_one, h.es, esOf_app, esOf_one, List.append_assoc]
  have hnew : ∀ {D' : DiskS}, D'.files = putFile { getF D (nameW z.f) with all := (getF D (nameW z.f)).all ++ linesW (L.last + 1) ms } D.files →
      WInv D' ⟨L.b, L.es ++ ms, L.fs.dropLast ++ [⟨z.f, z.es.length + ms.length, z.w.length + (linesW (L.last + 1) ms).length⟩], L.safe⟩ (A ++ [⟨z.f, z.es ++ ms, z.k⟩]) := by
    intro D' hD
    refine ⟨?_, ?_, hes.symm, ?_, ?_, ?_, ?_, ?_, ?_, lo_put h.lo rfl⟩
    · unfold logF
      rw [hD, getF_some hf]
      have := log_put (z' := ⟨z.f, z.es ++ ms, z.k⟩) hr h.fil (h.in60 hz) rfl
      rw [← this]
      congr 2
      show ({ name := nameW z.f, all := z.w ++ linesW (L.last + 1) ms, kept := z.k } : FileS) = ⟨nameW z.f, segW z.f (z.es ++ ms), z.k⟩
      rw [hw]
    · show L.fs.dropLast ++ _ = _
      rw [hg.2, List.map_append]
      congr 1
      show [_] = [_]
      congr 1
      show (⟨z.f, z.es.length + ms.length, z.w.length + (linesW (L.last + 1) ms).length⟩ : WF) = ⟨z.f, (z.es ++ ms).length, (segW z.f (z.es ++ ms)).length⟩
      rw [← hw, List.length_append, List.length_append]
    · have := Chain.app.1 h.ch
      exact Chain.app.2 ⟨this.1, this.2.1, trivial⟩
    · intro e he
      rcases List.mem_append.1 he with he | he
      · exact h.ok e he
      · exact hok e he
    · show L.b + (L.es ++ ms).length ≤ H59
      rw [List.length_append]
      unfold WalS.last at hi
      omega
    · rw [List.dropLast_concat]
      have := h.full
      rwa [List.dropLast_concat] at this
    · show L.safe ≤ (L.es ++ ms).length
      rw [List.length_append]
      have := h.safe
      omega
    · intro B y e
      obtain ⟨rfl, e2⟩ := List.append_inj' e rfl
      obtain rfl := List.singleton_inj.1 e2
      obtain ⟨h1, h2⟩ := h.kept A z rfl
      refine ⟨h1, ?_⟩
      rcases h2 with ⟨k0, k1, k2⟩ | ⟨j, j1, j2, j3⟩
      · exact .inl ⟨k0, k1, fun e => k2 (List.append_eq_nil_iff.1 e).1⟩
      · refine .inr ⟨j, ?_, j2, ?_⟩
        · show j ≤ (z.es ++ ms).length
          rw [List.length_append]
          omega
        · show z.k = (segW z.f ((z.es ++ ms).take j)).length
          rw [List.take_append_of_le_length j1]
          exact j3
  unfold addW
  rcases append_cases (n := nameW z.f) (b := linesW (L.last + 1) ms) hd with ⟨h1, h2⟩ | ⟨h1, ⟨h2, h3⟩ | ⟨h2, h3⟩⟩
  · rw [if_pos (show (appendD D (nameW z.wf.f) (linesW (L.last + 1) ms)).2 ≠ 0 from h1)]
    refine .inl ⟨?_, ?_, A ++ [z], ?_⟩
    · show (appendD D (nameW z.f) _).1.down = false
      rw [h2]; exact hd
    · show Rising (appendD D (nameW z.f) _).1.files
      rw [h2]; exact hr
    · show WInv (appendD D (nameW z.f) _).1 L (A ++ [z])
      rw [h2]; exact h
  · rw [if_pos (show (appendD D (nameW z.wf.f) (linesW (L.last + 1) ms)).2 ≠ 0 by rw [show (appendD D (nameW z.wf.f) (linesW (L.last + 1) ms)).2 = 50 from h2]; decide)]
    exact .inr ⟨h3, h2, _, _, hnew h1, rfl, rfl, .inr rfl⟩
  · rw [if_neg (show ¬ (appendD D (nameW z.wf.f) (linesW (L.last + 1) ms)).2 ≠ 0 by rw [show (appendD D (nameW z.wf.f) (linesW (L.last + 1) ms)).2 = 0 from h2]; decide)]
    refine .inl ⟨h3, ?_, _, hnew h1⟩
    show Rising (appendD D (nameW z.f) _).1.files
    rw [h1]
    exact hr.put _
/-- .. in a new piece. -/
theorem new_law {D : DiskS} {L : WalS} {P : List Pc} (h : WInv D L P) (hd : D.down = false) (hr : Rising D.files) {ms : List EntS} (hok : ∀ e ∈ ms, e.ok) (hi : L.last + ms.length ≤ H59) (hne : ms ≠ []) (hP : ∀ p ∈ P, 1024 ≤ p.w.length ∧ p.es ≠ []) :
    OpUp (newW D L ms) ∨ OpDn ms (newW D L ms) := by
  unfold newW
  rcases sync_law h hd hr with ⟨h1, h2, h3, h4⟩ | ⟨h1, h2, h3, h4, P', h5, h6, h7⟩
  · rw [if_pos (by rw [h1]; decide)]
    exact .inr ⟨h2, h1, L, P, h4, by rw [h3], by rw [h3], .inl (by rw [h3])⟩
  · rw [if_neg (by rw [h1]; decide)]
    have hP' : ∀ p ∈ P', p.k = p.w.length ∧ 1024 ≤ p.w.length ∧ p.es ≠ [] := by
      intro p hp
      have hm : p.wf ∈ P.map Pc.wf := by rw [← h6]; exact List.mem_map_of_mem hp
      obtain ⟨q, hq, e⟩ := List.mem_map.1 hm
      obtain ⟨q1, q2⟩ := hP q hq
      have e1 : q.es.length = p.es.length := congrArg WF.m e
      have e2 : q.w.length = p.w.length := congrArg WF.s e
      refine ⟨h7 p hp, by omega, fun e3 => q2 (List.length_eq_zero_iff.1 ?_)⟩
      rw [e1, e3]
      rfl
    have hlast : ∀ p ∈ P', 1 ≤ p.f ∧ p.f < L.last + 1 := by
      intro p hp
      have a := h5.range p hp
      have b := List.length_pos_iff.2 (hP' p hp).2.2
      have c : p.f + p.es.length ≤ L.last + 1 := a.2.2.2
      omega
    have hn60 : 1 ≤ L.last + 1 ∧ L.last + 1 < 1152921504606846976 := by unfold H59 at hi; omega
    obtain ⟨g1, g2⟩ := log_new (z := ⟨L.last + 1, ms, 0⟩) h3 h5.fil hn60 hlast
    have hnew : ∀ {D' : DiskS}, D'.files = putFile { getF (syncW D L).1 (nameW (L.last + 1)) with all := (getF (syncW D L).1 (nameW (L.last + 1))).all ++ segW (L.last + 1) ms } (syncW D L).1.files →
        WInv D' ⟨L.b, L.es ++ ms, L.fs ++ [⟨L.last + 1, ms.length, (segW (L.last + 1) ms).length⟩], (syncW D L).2.1.safe⟩ (P' ++ [⟨L.last + 1, ms, 0⟩]) := by
      intro D' hD
      have hsafe : (syncW D L).2.1.safe = L.es.length := by rw [h4]
      have hesP : L.es = esOf P' := h5.es
      refine ⟨?_, ?_, ?_, ?_, ?_, ?_, ?_, ?_, ?_, h.lo.1, fun p hp => ?_⟩
      rotate_right
      · rcases List.mem_append.1 hp with hp | hp
        · exact h5.lo.2 p hp
        · obtain rfl := List.mem_singleton.1 hp
          have := List.length_pos_iff.2 hne
          show L.last + 1 ≤ H59
          omega
      · unfold logF
        rw [hD, getF_none g1]
        exact g2
      · show L.fs ++ _ = _
        rw [List.map_append, h6, h.fs]
        rfl
      · show L.es ++ ms = _
        rw [esOf_app, esOf_one, ← hesP]
      · refine Chain.app.2 ⟨h5.ch, ?_, trivial⟩
        show L.last + 1 = L.b + 1 + (esOf P').length
        rw [← hesP]
        unfold WalS.last
        omega
      · intro e he
        rcases List.mem_append.1 he with he | he
        · exact h.ok e he
        · exact hok e he
      · show L.b + (L.es ++ ms).length ≤ H59
        rw [List.length_append]
        unfold WalS.last at hi
        omega
      · rw [List.dropLast_concat]
        exact hP'
      · show (syncW D L).2.1.safe ≤ (L.es ++ ms).length
        rw [hsafe, List.length_append]
        omega
      · intro B y e
        obtain ⟨rfl, e2⟩ := List.append_inj' e rfl
        obtain rfl := List.singleton_inj.1 e2
        show (esOf P').length ≤ (syncW D L).2.1.safe ∧ _
        rw [hsafe]
        exact ⟨by rw [hesP]; exact Nat.le_refl _, .inl ⟨rfl, by show L.es.length = _; rw [hesP], hne⟩⟩
    rcases append_cases (n := nameW (L.last + 1)) (b := segW (L.last + 1) ms) h2 with ⟨k1, k2⟩ | ⟨k1, ⟨k2, k3⟩ | ⟨k2, k3⟩⟩
    · rw [if_pos k1]
      refine .inl ⟨?_, ?_, P', ?_⟩
      · show (appendD (syncW D L).1 _ _).1.down = false
        rw [k2]; exact h2
      · show Rising (appendD (syncW D L).1 _ _).1.files
        rw [k2]; exact h3
      · show WInv (appendD (syncW D L).1 _ _).1 (syncW D L).2.1 P'
        rw [k2, h4]; exact h5
    · rw [if_pos (by rw [k2]; decide)]
      exact .inr ⟨k3, k2, _, _, hnew k1, by show L.b = (syncW D L).2.1.b; rw [h4], rfl, .inr (by show L.es ++ ms = (syncW D L).2.1.es ++ ms; rw [h4])⟩
    · rw [if_neg (by rw [k2]; decide)]
      refine .inl ⟨k3, ?_, _, hnew k1⟩
      show Rising (appendD (syncW D L).1 _ _).1.files
      rw [k1]
      exact h3.put _
theorem append_law {D : DiskS} {L : WalS} {P : List Pc} (h : WInv D L P) (hd : D.down = false) (hr : Rising D.files) (ms : List EntS) :
    OpUp (appendW D L ms) ∨ OpDn ms (appendW D L ms) := by
  have hsame : ∀ e, OpUp (D, L, e) := fun e => ⟨hd, hr, P, h⟩
  unfold appendW
  by_cases hok : ∀ e ∈ ms, e.ok
  · rw [if_neg (by simpa using hok)]
    by_cases hl : leftW L.last < ms.length
    · rw [if_pos hl]
      exact .inl (hsame _)
    · rw [if_neg hl]
      have hi : L.last + ms.length ≤ H59 := leftW_le h.hi hl
      by_cases hne : ms = []
      · rw [if_pos hne]
        exact .inl (hsame _)
      · rw [if_neg hne]
        by_cases hP : P = []
        · subst hP
          have hfs : L.fs = [] := h.fs
          rw [hfs]
          exact new_law h hd hr hok hi hne fun p hp => by cases hp
        · obtain ⟨A, z, rfl⟩ := split_last hP
          rw [(fs_last h).1]
          simp only
          by_cases hs : z.wf.s < 1024
          · rw [if_pos hs]
            exact add_law h hd hr hok hi
          · rw [if_neg hs]
            refine new_law h hd hr hok hi hne fun p hp => ?_
            have hfull : ∀ p ∈ A, p.k = p.w.length ∧ 1024 ≤ p.w.length ∧ p.es ≠ [] := by have := h.full; rwa [List.dropLast_concat] at this
            rcases List.mem_append.1 hp with hp | hp
            · exact (hfull p hp).2
            · obtain rfl := List.mem_singleton.1 hp
              have hs' : 1024 ≤ p.w.length := by
                show 1024 ≤ p.wf.s
                omega
              refine ⟨hs', fun e => ?_⟩
              have h1 := (h.in60 (List.mem_append_right A (List.mem_singleton_self p))).2
              have h2 := headW_short (n := p.f) (by omega)
              have h3 : p.w = headW p.f := by
                unfold Pc.w segW
                rw [e]
                exact List.append_nil _
              rw [h3] at hs'
              omega
  · rw [if_pos (by simpa using hok)]
    exact .inl (hsame _)
end Go.Proofs.YtjdglpcnkiioeaaGreat

/- What a log's Cut and Drop leave of its pieces; plain. -/
namespace Go.Proofs.YtjdglpcnkiioeaaGreat
open Go.RowKit Go.Maps Go.Proofs.Own Go.Shelf

/-- The files from an index on go. -/
theorem cutF_law (frm : Nat) : ∀ (n : Nat) {D : DiskS} {L : WalS} {P : List Pc}, WInv D L P → D.down = false → Rising D.files → P.length ≤ n →
    ((cutF frm n D L).2.2 = 50 ∧ (cutF frm n D L).1.down = true ∧ ∃ P', WInv (cutF frm n D L).1 (cutF frm n D L).2.1 P') ∨
    ((cutF frm n D L).2.2 = 0 ∧ (cutF frm n D L).1.down = false ∧ Rising (cutF frm n D L).1.files ∧ (cutF frm n D L).2.1.b = L.b ∧ ∃ P', WInv (cutF frm n D L).1 (cutF frm n D L).2.1 P' ∧ ∀ A z, P' = A ++ [z] → z.f < frm) := by
  intro n
  induction n with
  | zero =>
    intro D L P h hd hr hn
    obtain rfl := List.length_eq_zero_iff.1 (Nat.le_zero.1 hn)
    exact .inr ⟨rfl, hd, hr, rfl, [], h, fun A z e => by cases A <;> cases e⟩
  | succ n ih =>
    intro D L P h hd hr hn
    unfold cutF
    by_cases hP : P = []
    · subst hP
      have hfs : L.fs = [] := h.fs
      rw [hfs]
      exact .inr ⟨rfl, hd, hr, rfl, [], h, fun A z e => by cases A <;> cases e⟩
    · obtain ⟨A, z, rfl⟩ := split_last hP
      rw [(fs_last h).1]
      simp only
      by_cases hz : z.wf.f < frm
      · rw [if_pos hz]
        refine .inr ⟨rfl, hd, hr, rfl, _, h, fun B y e => ?_⟩
        obtain ⟨_, e2⟩ := List.append_inj' e rfl
        obtain rfl := List.singleton_inj.1 e2
        exact hz
      · rw [if_neg hz]
        rcases pop_law h hd hr with ⟨h1, h2, h3, h4⟩ | ⟨h1, h2, h3, h4, h5, _⟩
        · rw [if_pos (by rw [h1]; decide)]
          refine .inl ⟨h1, h2, A ++ [z], ?_⟩
          rw [h3]
          exact h4
        · rw [if_neg (by rw [h1]; decide)]
          rw [← h5]
          exact ih h4 h2 h3 (by rw [List.length_append] at hn; simpa using hn)
theorem segW_take_le (f : Nat) (es : List EntS) {a b : Nat} (h : a ≤ b) : (segW f (es.take a)).length ≤ (segW f (es.take b)).length := by
  have : es.take b = es.take a ++ (es.drop a).take (b - a) := by
    conv => lhs; rw [show b = a + (b - a) by omega, List.take_add]
  rw [this, segW_app, List.length_append]
  omega
theorem segW_take_min (f : Nat) (es : List EntS) (a b : Nat) : (segW f (es.take (min a b))).length = min (segW f (es.take a)).length (segW f (es.take b)).length := by
  by_cases h : a ≤ b
  · have := segW_take_le f es h
    rw [Nat.min_eq_left h]
    omega
  · have := segW_take_le f es (show b ≤ a by omega)
    rw [Nat.min_eq_right (by omega)]
    omega
theorem segW_take (f : Nat) (es : List EntS) (m : Nat) : (segW f es).take (segW f (es.take m)).length = segW f (es.take m) := by
  conv => lhs; arg 2; rw [← List.take_append_drop m es, segW_app]
  exact List.take_left' rfl
/-- The last file is cut. -/
theorem cutL_law {D : DiskS} {L : WalS} {A : List Pc} {z : Pc} (h : WInv D L (A ++ [z])) (hd : D.down = false) (hr : Rising D.files) {frm : Nat} (h1 : z.f < frm) (h2 : frm ≤ L.last) :
    OpUp (cutL D L frm) ∨ OpDn [] (cutL D L frm) := by
  have hz : z ∈ A ++ [z] := List.mem_append_right _ (List.mem_singleton_self z)
  have hf := log_find hr h.fil (h.in60 hz)
  have hg := fs_last h
  have hel : L.es.length = (esOf A).length + z.es.length := by rw [h.es, esOf_app, esOf_one, List.length_append]
  have hzf : z.f = L.b + 1 + (esOf A).length := (Chain.app.1 h.ch).2.1
  have hlast : L.last = L.b + L.es.length := rfl
  have hat : z.f - L.b - 1 = (esOf A).length := by omega
  have hdrop : L.es.drop (z.f - L.b - 1) = z.es := by
    rw [hat, h.es, esOf_app, esOf_one]
    exact List.drop_left' rfl
  have hsz : (headW z.f).length + (linesW z.f (z.es.take (frm - z.f))).length = (segW z.f (z.es.take (frm - z.f))).length := by
    unfold segW
    rw [List.length_append]
  have hle : (segW z.f (z.es.take (frm - z.f))).length ≤ z.w.length := by
    have := segW_take_le z.f z.es (a := frm - z.f) (b := z.es.length) (by omega)
    rwa [List.take_length] at this
  have htk : L.es.take (frm - L.b - 1) = esOf A ++ z.es.take (frm - z.f) := by
    rw [h.es, esOf_app, esOf_one, show frm - L.b - 1 = (esOf A).length + (frm - z.f) by omega, List.take_length_add_append]
  unfold cutL
  rw [hg.1]
  simp only
  show OpUp (if (cutD D (nameW z.f) ((headW z.f).length + (linesW z.f ((L.es.drop (z.f - L.b - 1)).take (frm - z.f))).length : Nat)).2 ≠ 0 then _ else _) ∨ OpDn [] (if (cutD D (nameW z.f) ((headW z.f).length + (linesW z.f ((L.es.drop (z.f - L.b - 1)).take (frm - z.f))).length : Nat)).2 ≠ 0 then _ else _)
  have hwf : z.wf.f = z.f := rfl
  rw [hwf, hdrop, hsz]
  rcases cut_cases (k := (segW z.f (z.es.take (frm - z.f))).length) hd hf hle with ⟨k1, k2, k3⟩ | ⟨k1, k2, k3⟩
  · rw [if_pos (by rw [k1]; decide)]
    exact .inr ⟨k2, k1, L, A ++ [z], h.same k3, rfl, rfl, .inl rfl⟩
  · rw [if_neg (by rw [k1]; decide)]
    have hfile : (⟨z.file.name, z.file.all.take (segW z.f (z.es.take (frm - z.f))).length, min z.file.kept (segW z.f (z.es.take (frm - z.f))).length⟩ : FileS) = (⟨z.f, z.es.take (frm - z.f), min z.k (segW z.f (z.es.take (frm - z.f))).length⟩ : Pc).file := by
      show (⟨nameW z.f, (segW z.f z.es).take _, _⟩ : FileS) = ⟨nameW z.f, segW z.f (z.es.take (frm - z.f)), _⟩
      rw [segW_take]
      rfl
    rw [hfile] at k3
    refine .inl ⟨k2, ?_, A ++ [⟨z.f, z.es.take (frm - z.f), min z.k (segW z.f (z.es.take (frm - z.f))).length⟩], ?_, ?_, ?_, ?_, ?_, ?_, ?_, ?_, ?_, lo_put h.lo rfl⟩
    · show Rising (cutD D (nameW z.f) _).1.files
      rw [k3]
      exact hr.put _
    · show (cutD D (nameW z.f) _).1.files.filter isW = _
      rw [k3]
      exact log_put (z' := ⟨z.f, z.es.take (frm - z.f), min z.k (segW z.f (z.es.take (frm - z.f))).length⟩) hr h.fil (h.in60 hz) rfl
    · show L.fs.dropLast ++ [_] = _
      rw [hg.2, List.map_append]
      congr 1
      show [_] = [_]
      congr 1
      show (⟨z.f, frm - z.f, _⟩ : WF) = ⟨z.f, (z.es.take (frm - z.f)).length, (segW z.f (z.es.take (frm - z.f))).length⟩
      rw [List.length_take, show min (frm - z.f) z.es.length = frm - z.f by omega]
    · show L.es.take (frm - L.b - 1) = _
      rw [htk, esOf_app, esOf_one]
    · have := Chain.app.1 h.ch
      exact Chain.app.2 ⟨this.1, this.2.1, trivial⟩
    · intro e he
      exact h.ok e (List.mem_of_mem_take he)
    · show L.b + (L.es.take (frm - L.b - 1)).length ≤ H59
      have := h.hi
      rw [List.length_take]
      omega
    · rw [List.dropLast_concat]
      have := h.full
      rwa [List.dropLast_concat] at this
    · show min L.safe (frm - L.b - 1) ≤ (L.es.take (frm - L.b - 1)).length
      have := h.safe
      rw [List.length_take]
      omega
    · intro B y e
      obtain ⟨rfl, e2⟩ := List.append_inj' e rfl
      obtain rfl := List.singleton_inj.1 e2
      obtain ⟨s1, s2⟩ := h.kept A z rfl
      show (esOf A).length ≤ min L.safe (frm - L.b - 1) ∧ _
      refine ⟨by omega, ?_⟩
      rcases s2 with ⟨p0, p1, p2⟩ | ⟨j, j1, j2, j3⟩
      · refine .inl ⟨?_, ?_, ?_⟩
        · show min z.k _ = 0
          rw [p0]
          exact Nat.zero_min _
        · show min L.safe (frm - L.b - 1) = _
          omega
        · show z.es.take (frm - z.f) ≠ []
          intro e
          have h3 := congrArg List.length e
          rw [List.length_take] at h3
          have h4 := List.length_pos_iff.2 p2
          simp only [List.length_nil] at h3
          omega
      · refine .inr ⟨min j (frm - z.f), ?_, ?_, ?_⟩
        · show min j (frm - z.f) ≤ (z.es.take (frm - z.f)).length
          rw [List.length_take]
          omega
        · show min L.safe (frm - L.b - 1) ≤ (esOf A).length + min j (frm - z.f)
          omega
        · show min z.k (segW z.f (z.es.take (frm - z.f))).length = (segW z.f ((z.es.take (frm - z.f)).take (min j (frm - z.f)))).length
          rw [List.take_take, show min (min j (frm - z.f)) (frm - z.f) = min j (frm - z.f) by omega, segW_take_min, j3]
theorem cut_law {D : DiskS} {L : WalS} {P : List Pc} (h : WInv D L P) (hd : D.down = false) (hr : Rising D.files) (frm : Nat) :
    OpUp (cutW D L frm) ∨ OpDn [] (cutW D L frm) := by
  unfold cutW
  by_cases ha : frm ≤ L.b ∨ L.last + 1 < frm
  · rw [if_pos ha]
    exact .inl ⟨hd, hr, P, h⟩
  · rw [if_neg ha]
    have hn : P.length = L.fs.length := by rw [h.fs, List.length_map]
    rcases cutF_law frm L.fs.length h hd hr (by omega) with ⟨h1, h2, P', h3⟩ | ⟨h1, h2, h3, h4, P', h5, h6⟩
    · rw [if_pos (by rw [h1]; decide)]
      exact .inr ⟨h2, h1, _, P', h3, rfl, rfl, .inl rfl⟩
    · rw [if_neg (by rw [h1]; decide)]
      by_cases hl : (cutF frm L.fs.length D L).2.1.last < frm
      · rw [if_pos hl]
        exact .inl ⟨h2, h3, P', h5⟩
      · rw [if_neg hl]
        have hP : P' ≠ [] := by
          rintro rfl
          have e := h5.es
          unfold WalS.last at hl
          rw [e, h4] at hl
          have : (esOf []).length = 0 := rfl
          omega
        obtain ⟨A, z, rfl⟩ := split_last hP
        exact cutL_law h5 h2 h3 (h6 A z rfl) (by omega)
/-- The files that are not needed go. -/
theorem dropF_law (upto : Nat) : ∀ (n : Nat) {D : DiskS} {L : WalS} {P : List Pc}, WInv D L P → D.down = false → Rising D.files →
    OpUp (dropF upto n D L) ∨ OpDn [] (dropF upto n D L) := by
  intro n
  induction n with
  | zero =>
    intro D L P h hd hr
    exact .inl ⟨hd, hr, P, h⟩
  | succ n ih =>
    intro D L P h hd hr
    match P, h with
    | [], h =>
      have hfs : L.fs = [] := h.fs
      unfold dropF
      rw [hfs]
      exact .inl ⟨hd, hr, [], h⟩
    | [p], h =>
      have hfs : L.fs = [p.wf] := h.fs
      unfold dropF
      rw [hfs]
      exact .inl ⟨hd, hr, [p], h⟩
    | p :: q :: s, h =>
      have hfs : L.fs = p.wf :: q.wf :: s.map Pc.wf := h.fs
      unfold dropF
      rw [hfs]
      simp only
      by_cases hu : q.wf.f ≤ upto + 1
      · rw [if_pos hu]
        have hf := log_find (A := []) hr h.fil (h.in60 (List.mem_cons_self ..))
        have hel : L.es = p.es ++ esOf (q :: s) := h.es
        rcases remove_cases hd hf with ⟨k1, k2, k3⟩ | ⟨k1, k2, k3⟩
        · have k1' : (removeD D (nameW p.wf.f)).2 = 50 := k1
          rw [if_pos (by rw [k1']; decide)]
          exact .inr ⟨k2, k1', L, _, h.same k3, rfl, rfl, .inl rfl⟩
        · have k1' : (removeD D (nameW p.wf.f)).2 = 0 := k1
          rw [if_neg (by rw [k1']; decide)]
          have hes : L.es.drop p.wf.m = esOf (q :: s) := by
            rw [hel]
            exact List.drop_left' rfl
          have hlen : L.es.length = p.es.length + (esOf (q :: s)).length := by rw [hel, List.length_append]
          have hqf : q.f = L.b + 1 + p.es.length := h.ch.2.1
          have hq59 := h.lo.2 q (List.mem_cons_of_mem _ (List.mem_cons_self ..))
          refine ih (P := q :: s) ⟨?_, rfl, hes, ?_, ?_, ?_, ?_, ?_, ?_, (by show L.b + p.es.length < H59; omega), fun x hx => h.lo.2 x (List.mem_cons_of_mem _ hx)⟩ k2 ?_
          · show (removeD D (nameW p.f)).1.files.filter isW = _
            rw [k3]
            exact log_del (A := []) hr h.fil
          · have := h.ch.2
            rw [show L.b + 1 + p.es.length = L.b + p.wf.m + 1 by show _ = L.b + p.es.length + 1; omega] at this
            exact this
          · intro e he
            exact h.ok e (List.mem_of_mem_drop he)
          · show L.b + p.es.length + (L.es.drop p.wf.m).length ≤ H59
            have := h.hi
            rw [hes]
            omega
          · intro x hx
            refine h.full x ?_
            show x ∈ p :: (q :: s).dropLast
            exact List.mem_cons_of_mem _ hx
          · show L.safe - p.es.length ≤ (L.es.drop p.wf.m).length
            have := h.safe
            rw [hes]
            omega
          · intro B y e
            have hB : p :: q :: s = (p :: B) ++ [y] := by rw [List.cons_append, ← e]
            obtain ⟨s1, s2⟩ := h.kept (p :: B) y hB
            rw [esOf_cons, List.length_append] at s1 s2
            show (esOf B).length ≤ L.safe - p.es.length ∧ _
            refine ⟨by omega, ?_⟩
            rcases s2 with ⟨p0, p1, p2⟩ | ⟨j, j1, j2, j3⟩
            · exact .inl ⟨p0, by show L.safe - p.es.length = _; omega, p2⟩
            · exact .inr ⟨j, j1, by show L.safe - p.es.length ≤ _; omega, j3⟩
          · rw [show (removeD D (nameW p.wf.f)).1.files = _ from k3]
            exact hr.del _
      · rw [if_neg hu]
        exact .inl ⟨hd, hr, _, h⟩
theorem drop_law {D : DiskS} {L : WalS} {P : List Pc} (h : WInv D L P) (hd : D.down = false) (hr : Rising D.files) (upto : Nat) :
    OpUp (dropW D L upto) ∨ OpDn [] (dropW D L upto) := by
  unfold dropW
  by_cases hl : L.last < upto
  · rw [if_pos hl]
    exact .inl ⟨hd, hr, P, h⟩
  · rw [if_neg hl]
    exact dropF_law upto _ h hd hr
theorem sync_up {D : DiskS} {L : WalS} {P : List Pc} (h : WInv D L P) (hd : D.down = false) (hr : Rising D.files) : OpUp (syncW D L) ∨ OpDn [] (syncW D L) := by
  rcases sync_law h hd hr with ⟨h1, h2, h3, h4⟩ | ⟨h1, h2, h3, h4, P', h5, _⟩
  · exact .inr ⟨h2, h1, L, P, h4, by rw [h3], by rw [h3], .inl (by rw [h3])⟩
  · exact .inl ⟨h2, h3, P', by rw [h4]; exact h5⟩
theorem reset_up {D : DiskS} {L : WalS} {P : List Pc} (h : WInv D L P) (hd : D.down = false) (hr : Rising D.files) (base : Nat) : OpUp (resetW D L base) ∨ OpDn [] (resetW D L base) := by
  unfold resetW
  by_cases hb : H59 ≤ base
  · rw [if_pos hb]
    exact .inl ⟨hd, hr, P, h⟩
  · rw [if_neg hb]
    rcases reset_law (base := base) (by omega) L.fs.length h hd hr (by rw [h.fs, List.length_map]; exact Nat.le_refl _) with ⟨h1, h2, P', h3⟩ | ⟨h1, h2, h3, h4, _⟩
    · exact .inr ⟨h2, h1, _, P', h3, rfl, rfl, .inl rfl⟩
    · exact .inl ⟨h2, h3, [], h4⟩
end Go.Proofs.YtjdglpcnkiioeaaGreat

/- What a crash, Boot, Arm and Resize keep of a disk's bounds; that the power's end is told; plain. -/
namespace Go.Proofs.YtjdglpcnkiioeaaGreat
open Go.RowKit Go.Maps Go.Proofs.Own

theorem total_app (A B : List FileS) : total (A ++ B) = total A + total B := by simp [total]
theorem crash1_fits {f : FileS} (ts : List (Nat × Nat)) (hf : f.kept ≤ f.all.length) : total (crash1 f ts) ≤ f.all.length ∧ ∀ g ∈ crash1 f ts, g.name = f.name ∧ g.kept ≤ g.all.length := by
  refine ⟨?_, fun g hg => ⟨crash1_name hg, ?_⟩⟩
  · unfold crash1
    split
    · split
      · simp [total]
      · have := length_tornL (f.all.drop f.kept) (ts.headD (0, 0))
        rw [List.length_drop] at this
        rw [total_cons]
        simp only [total, List.map_nil, List.sum_nil, List.length_append, List.length_take]
        omega
    · split
      · simp [total]
      · rw [total_cons]
        simp [total]
  · unfold crash1 at hg
    split at hg
    · split at hg
      · cases hg
      · obtain rfl := List.mem_singleton.1 hg; exact Nat.le_refl _
    · split at hg
      · cases hg
      · obtain rfl := List.mem_singleton.1 hg; exact hf
theorem crashL_fits : ∀ (L : List FileS) (ts : List (Nat × Nat)), (∀ f ∈ L, f.name.size ≤ 16 ∧ f.kept ≤ f.all.length) → total (crashL L ts) ≤ total L ∧ ∀ g ∈ crashL L ts, g.name.size ≤ 16 ∧ g.kept ≤ g.all.length
  | [], _, _ => ⟨Nat.le_refl _, nofun⟩
  | f :: r, ts, h => by
    obtain ⟨h1, h2⟩ := crash1_fits ts (h f List.mem_cons_self).2
    obtain ⟨h3, h4⟩ := crashL_fits r (tears1 f ts) fun g hg => h g (List.mem_cons_of_mem _ hg)
    refine ⟨?_, fun g hg => ?_⟩
    · show total (crash1 f ts ++ crashL r (tears1 f ts)) ≤ _
      rw [total_app, total_cons]
      omega
    · rcases List.mem_append.1 hg with hg | hg
      · obtain ⟨e1, e2⟩ := h2 g hg
        exact ⟨by rw [e1]; exact (h f List.mem_cons_self).1, e2⟩
      · exact h4 g hg
theorem DGood.crash {D : DiskS} (h : DGood D) (ts : List (Nat × Nat)) : DGood (crashD D ts) := by
  obtain ⟨h1, h2⟩ := crashL_fits D.files ts h.wf.each
  have h3 := length_crashL D.files ts
  have h4 := h.tot
  have h5 := h.few
  exact ⟨⟨h.wf.room0, h.wf.room1, by show (-1 : Int) ≤ -1; decide, by show (-1 : Int) ≤ _; decide, h.wf.steps0, h.wf.steps1, by show (crashL D.files ts).length ≤ _; omega, h2⟩, by show total (crashL D.files ts) ≤ _; omega, by show (crashL D.files ts).length ≤ _; omega⟩
theorem DGood.boot {D : DiskS} (h : DGood D) : DGood (bootD D) :=
  ⟨⟨h.wf.room0, h.wf.room1, by show (-1 : Int) ≤ -1; decide, by show (-1 : Int) ≤ _; decide, h.wf.steps0, h.wf.steps1, h.wf.many, h.wf.each⟩, h.tot, h.few⟩
theorem DGood.arm {D : DiskS} (h : DGood D) (n : Int) (hn : n ≤ 9223372036854775807) : DGood (armD D n).1 := by
  unfold armD
  split
  · exact h
  · split
    · exact h
    · exact ⟨⟨h.wf.room0, h.wf.room1, by simp only; omega, hn, h.wf.steps0, h.wf.steps1, h.wf.many, h.wf.each⟩, h.tot, h.few⟩
end Go.Proofs.YtjdglpcnkiioeaaGreat
