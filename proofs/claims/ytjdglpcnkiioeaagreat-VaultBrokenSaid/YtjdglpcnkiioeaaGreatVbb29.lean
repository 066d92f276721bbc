/- Several texts in one: Vl0, Pg, Vr, Vt, Wm, Vu, Wi, Wj, Wk, Wn, Wo, Vz, Wc, Wp, Wq, Ws, Wu, Wyb, Sk, Sop, Sgt. What each proves stands ahead of it; together they serve vbroken_law_holds. No conditions but those stated. -/
import Derived.Test.YtjdglpcnkiioeaaGreatVbb25
import Derived.Test.YtjdglpcnkiioeaaGreatVbb21
import Derived.Test.YtjdglpcnkiioeaaGreatVbb16
import Derived.Test.YtjdglpcnkiioeaaGreatVbb26
import Derived.Test.YtjdglpcnkiioeaaGreatVbb18
import Derived.Test.YtjdglpcnkiioeaaGreatVbb20
namespace Go.Proofs.YtjdglpcnkiioeaaGreat
open Go.RowKit Go.Maps Go.Proofs.Own Go.Shelf

theorem frNx_round (k : Nat) (l r : List Nat) : frNx (frP k l ++ r) = r := by
  unfold frNx
  rw [frN_round, <- length_frP k l, List.drop_left]

structure EntS where
  t : Int
  k : Int
  d : List Nat
def EntS.ok (e : EntS) : Prop := 1 <= e.t /\ e.t <= 1152921504606846976 /\ 1 <= e.k /\ e.k <= 3 /\ e.d.length <= 4096
instance (e : EntS) : Decidable e.ok := inferInstanceAs (Decidable (_ /\ _))
def M64 : Nat := 18446744073709551615
def lineB (i : Nat) (e : EntS) : List Nat := numsW [i, e.t.toNat, e.k.toNat] ++ (numW e.d.length ++ e.d)
def lineW (i : Nat) (e : EntS) : List Nat := frP 2 (lineB i e)
def headW (n : Nat) : List Nat := frP 1 (numW n)
def linesW (i : Nat) : List EntS -> List Nat
  | [] => []
  | e :: es => lineW i e ++ linesW (i + 1) es
def hdV (l : List Nat) : Nat := numV H60 (frBody l)
def hdE (l : List Nat) : Nat := endE (numL H60 (frBody l)) (numB H60 (frBody l))
def hdGo (l : List Nat) : Prop := takeE l = 0 /\ l.getD 1 0 = 1 /\ hdE l = 0 /\ hdV l ≠ 0
instance (l : List Nat) : Decidable (hdGo l) := inferInstanceAs (Decidable (_ /\ _))
def lnR1 (l : List Nat) : List Nat := numL M64 (frBody l)
def lnR2 (l : List Nat) : List Nat := numL H60 (lnR1 l)
def lnR3 (l : List Nat) : List Nat := numL 3 (lnR2 l)
def lnI (l : List Nat) : Nat := numV M64 (frBody l)
def lnX (l : List Nat) : EntS := ⟨numV H60 (lnR1 l), numV 3 (lnR2 l), textV 4096 (lnR3 l)⟩
def lnE (l : List Nat) : Nat := endE (textL 4096 (lnR3 l)) (((numB M64 (frBody l) || numB H60 (lnR1 l)) || numB 3 (lnR2 l)) || textB 4096 (lnR3 l))
def lnGo (i : Nat) (l : List Nat) : Prop := takeE l = 0 /\ l.getD 1 0 = 2 /\ lnE l = 0 /\ lnI l = i /\ (lnX l).ok
instance (i : Nat) (l : List Nat) : Decidable (lnGo i l) := inferInstanceAs (Decidable (_ /\ _))
structure SegS where
  f : Nat
  es : List EntS
  g : Nat
def segF : Nat -> List Nat -> SegS -> SegS
  | 0, _, s => s
  | n + 1, l, s =>
    if s.f = 0 then (if hdGo l then segF n (frNx l) ⟨hdV l, s.es, s.g + (frBody l).length + 8⟩ else s)
    else (if lnGo (s.f + s.es.length) l then segF n (frNx l) ⟨s.f, s.es ++ [lnX l], s.g + (frBody l).length + 8⟩ else s)
def segR (l : List Nat) : SegS := segF l.length l ⟨0, [], 0⟩
theorem segF_no {l : List Nat} {s : SegS} (h0 : s.f = 0 -> ¬ hdGo l) (h1 : s.f ≠ 0 -> ¬ lnGo (s.f + s.es.length) l) (n : Nat) : segF n l s = s := by
  cases n with
  | zero => rfl
  | succ n =>
    unfold segF
    by_cases h : s.f = 0
    . rw [if_pos h, if_neg (h0 h)]
    . rw [if_neg h, if_neg (h1 h)]
theorem segF_stop {l : List Nat} {s : SegS} (h : takeE l ≠ 0) (n : Nat) : segF n l s = s := segF_no (fun _ g => h g.1) (fun _ g => h g.1) n
theorem segF_head {l : List Nat} {s : SegS} (h0 : s.f = 0) (h : hdGo l) (n : Nat) : segF (n + 1) l s = segF n (frNx l) ⟨hdV l, s.es, s.g + (frBody l).length + 8⟩ := by
  show (if s.f = 0 then _ else _) = _
  rw [if_pos h0, if_pos h]
theorem segF_line {l : List Nat} {s : SegS} (h0 : s.f ≠ 0) (h : lnGo (s.f + s.es.length) l) (n : Nat) : segF (n + 1) l s = segF n (frNx l) ⟨s.f, s.es ++ [lnX l], s.g + (frBody l).length + 8⟩ := by
  show (if s.f = 0 then _ else _) = _
  rw [if_neg h0, if_pos h]
theorem lt64 {n : Nat} (h : n <= M64) : (n : Int) < 18446744073709551616 := by unfold M64 at h; omega
theorem head_round {n : Nat} (r : List Nat) (h1 : 1 <= n) (h2 : n <= 1152921504606846976) : hdGo (headW n ++ r) /\ hdV (headW n ++ r) = n /\ frNx (headW n ++ r) = r /\ (frBody (headW n ++ r)).length + 8 = (headW n).length := by
  have hn : (n : Int) < 18446744073709551616 := by omega
  have hb : frBody (headW n ++ r) = numW n ++ [] := by unfold headW; rw [frBody_round, List.append_nil]
  have hl := numW_len hn
  have hv : hdV (headW n ++ r) = n := by unfold hdV; rw [hb]; exact numV_round _ hn h2
  refine ⟨⟨takeE_round r (by decide) (by omega), kind_round 1 _ r, ?_, by rw [hv]; omega⟩, hv, frNx_round _ _ _, by unfold headW; rw [frBody_round, length_frP]⟩
  unfold hdE
  rw [hb, numL_round (most := H60) [] hn h2, numB_round (most := H60) [] hn h2]
  rfl
theorem lineB_len {i : Nat} {e : EntS} (hi : i <= M64) (h : e.ok) : (lineB i e).length <= 4132 := by
  obtain ⟨h1, h2, h3, h4, h5⟩ := h
  have a := numsW_len [i, e.t.toNat, e.k.toNat] (by
    intro x hx
    simp only [List.mem_cons, List.not_mem_nil, or_false] at hx
    rcases hx with rfl | rfl | rfl
    . exact lt64 hi
    . omega
    . omega)
  have b := numW_len (n := e.d.length) (by omega)
  unfold lineB
  rw [List.length_append, List.length_append]
  simp at a
  omega
theorem lineW_len {i : Nat} {e : EntS} (hi : i <= M64) (h : e.ok) : (lineW i e).length <= 4140 /\ 8 <= (lineW i e).length := by
  have := lineB_len hi h
  unfold lineW
  rw [length_frP]
  omega
theorem line_round {i : Nat} {e : EntS} (r : List Nat) (hi : i <= M64) (h : e.ok) : lnGo i (lineW i e ++ r) /\ lnX (lineW i e ++ r) = e /\ frNx (lineW i e ++ r) = r /\ (frBody (lineW i e ++ r)).length + 8 = (lineW i e).length := by
  have hl := lineB_len hi h
  have hok := h
  obtain ⟨h1, h2, h3, h4, h5⟩ := h
  have hb : frBody (lineW i e ++ r) = numW i ++ (numW e.t.toNat ++ (numW e.k.toNat ++ (numW e.d.length ++ (e.d ++ [])))) := by
    unfold lineW
    rw [frBody_round]
    simp [lineB, numsW]
  have i64 := lt64 hi
  have t64 : (e.t.toNat : Int) < 18446744073709551616 := by omega
  have k64 : (e.k.toNat : Int) < 18446744073709551616 := by omega
  have t60 : e.t.toNat <= H60 := by unfold H60; omega
  have k3 : e.k.toNat <= 3 := by omega
  have r1 : lnR1 (lineW i e ++ r) = numW e.t.toNat ++ (numW e.k.toNat ++ (numW e.d.length ++ (e.d ++ []))) := by unfold lnR1; rw [hb]; exact numL_round _ i64 hi
  have r2 : lnR2 (lineW i e ++ r) = numW e.k.toNat ++ (numW e.d.length ++ (e.d ++ [])) := by unfold lnR2; rw [r1]; exact numL_round _ t64 t60
  have r3 : lnR3 (lineW i e ++ r) = numW e.d.length ++ (e.d ++ []) := by unfold lnR3; rw [r2]; exact numL_round _ k64 k3
  have hx : lnX (lineW i e ++ r) = e := by
    unfold lnX
    rw [r1, r2, r3, numV_round _ t64 t60, numV_round _ k64 k3, textV_round e.d [] h5 (by decide)]
    obtain ⟨t, k, d⟩ := e
    simp only at h1 h3 ⊢
    rw [show ((t.toNat : Nat) : Int) = t by omega, show ((k.toNat : Nat) : Int) = k by omega]
  refine ⟨⟨takeE_round r (by decide) (by omega), kind_round 2 _ r, ?_, ?_, by rw [hx]; exact hok⟩, hx, frNx_round _ _ _, by unfold lineW; rw [frBody_round, length_frP]⟩
  . unfold lnE
    rw [r1, r2, r3, hb, numB_round _ i64 hi, numB_round _ t64 t60, numB_round _ k64 k3, textB_round e.d [] h5 (by decide), textL_round e.d [] h5 (by decide)]
    rfl
  . unfold lnI
    rw [hb]
    exact numV_round _ i64 hi
theorem segF_lines {f : Nat} (hf : f ≠ 0) : ∀ (ms es : List EntS) (r : List Nat) (n g : Nat), (∀ e ∈ ms, e.ok) -> f + es.length + ms.length <= M64 -> (linesW (f + es.length) ms ++ r).length <= n ->
    ∃ m, r.length <= m /\ segF n (linesW (f + es.length) ms ++ r) ⟨f, es, g⟩ = segF m r ⟨f, es ++ ms, g + (linesW (f + es.length) ms).length⟩
  | [], es, r, n, g, _, _, hn => ⟨n, hn, by simp [linesW]⟩
  | e :: ms, es, r, n, g, hok, hb, hn => by
    have he := hok e (List.mem_cons_self ..)
    have hi : f + es.length <= M64 := by simp only [List.length_cons] at hb; omega
    obtain ⟨g1, g2, g3, g4⟩ := line_round (i := f + es.length) (linesW (f + es.length + 1) ms ++ r) hi he
    have h8 := (lineW_len hi he).2
    have hcat : linesW (f + es.length) (e :: ms) ++ r = lineW (f + es.length) e ++ (linesW (f + es.length + 1) ms ++ r) := by
      show (lineW (f + es.length) e ++ linesW (f + es.length + 1) ms) ++ r = _
      rw [List.append_assoc]
    rw [hcat] at hn ⊢
    obtain ⟨j, hj⟩ : ∃ j, n = j + 1 := ⟨n - 1, by rw [List.length_append] at hn; omega⟩
    subst hj
    have hl1 : f + (es ++ [e]).length = f + es.length + 1 := by rw [List.length_append]; rfl
    obtain ⟨m, h1, h2⟩ := segF_lines hf ms (es ++ [e]) r j (g + (lineW (f + es.length) e).length) (fun x hx => hok x (List.mem_cons_of_mem _ hx)) (by rw [hl1]; simp only [List.length_cons] at hb; omega) (by rw [hl1]; rw [List.length_append] at hn; omega)
    rw [hl1] at h2
    refine ⟨m, h1, ?_⟩
    rw [segF_line (s := ⟨f, es, g⟩) hf g1 j, g2, g3]
    have hg : g + (frBody (lineW (f + es.length) e ++ (linesW (f + es.length + 1) ms ++ r))).length + 8 = g + (lineW (f + es.length) e).length := by omega
    simp only
    rw [hg, h2]
    have hlen : (linesW (f + es.length) (e :: ms)).length = (lineW (f + es.length) e).length + (linesW (f + es.length + 1) ms).length := by
      show (lineW (f + es.length) e ++ linesW (f + es.length + 1) ms).length = _
      rw [List.length_append]
    rw [hlen, List.append_assoc, List.singleton_append, Nat.add_assoc]
def segW (f : Nat) (es : List EntS) : List Nat := headW f ++ linesW f es
theorem seg_round {f : Nat} {es : List EntS} (hf : 1 <= f) (hf2 : f <= 1152921504606846976) (hok : ∀ e ∈ es, e.ok) (hb : f + es.length <= M64) (r : List Nat) :
    ∃ m, r.length <= m /\ segR (segW f es ++ r) = segF m r ⟨f, es, (segW f es).length⟩ := by
  obtain ⟨g1, g2, g3, g4⟩ := head_round (linesW f es ++ r) hf hf2
  have hcat : segW f es ++ r = headW f ++ (linesW f es ++ r) := by unfold segW; rw [List.append_assoc]
  have hl : 8 <= (headW f).length := by unfold headW; rw [length_frP]; omega
  unfold segR
  rw [hcat]
  obtain ⟨j, hj⟩ : ∃ j, (headW f ++ (linesW f es ++ r)).length = j + 1 := ⟨(headW f ++ (linesW f es ++ r)).length - 1, by rw [List.length_append]; omega⟩
  rw [hj, segF_head (s := ⟨0, [], 0⟩) rfl g1 j, g2, g3]
  have hg : 0 + (frBody (headW f ++ (linesW f es ++ r))).length + 8 = (headW f).length := by omega
  simp only
  rw [hg]
  obtain ⟨m, h1, h2⟩ := segF_lines (f := f) (by omega) es [] r j (headW f).length hok (by simpa using hb) (by rw [List.length_append] at hj; simp only [List.length_nil, Nat.add_zero]; omega)
  simp only [List.length_nil, Nat.add_zero, List.nil_append] at h2
  refine ⟨m, h1, ?_⟩
  rw [h2]
  unfold segW
  rw [List.length_append]
theorem segR_stop {f : Nat} {es : List EntS} (hf : 1 <= f) (hf2 : f <= 1152921504606846976) (hok : ∀ e ∈ es, e.ok) (hb : f + es.length <= M64) {R : List Nat} (hR : takeE R ≠ 0) : segR (segW f es ++ R) = ⟨f, es, (segW f es).length⟩ := by
  obtain ⟨m, _, h⟩ := seg_round hf hf2 hok hb R
  rw [h, segF_stop hR]
end Go.Proofs.YtjdglpcnkiioeaaGreat
namespace Go.Proofs.YtjdglpcnkiioeaaGreat
open Go.RowKit Go.Maps Go.Proofs.Own

theorem find_none {n : ByteArray} {L : List FileS} (h : ∀ g ∈ L, ¬ g.name = n) : findFile n L = none := by
  unfold findFile
  rw [List.find?_eq_none]
  intro g hg
  simpa using h g hg
theorem crash1_name {f g : FileS} {ts : List (Nat × Nat)} (h : g ∈ crash1 f ts) : g.name = f.name := by
  unfold crash1 at h
  split at h
  . split at h
    . cases h
    . obtain rfl := List.mem_singleton.1 h; rfl
  . split at h
    . cases h
    . obtain rfl := List.mem_singleton.1 h; rfl
theorem crashL_name {g : FileS} : ∀ {L : List FileS} {ts : List (Nat × Nat)}, g ∈ crashL L ts -> ∃ f ∈ L, g.name = f.name
  | [], _, h => by cases h
  | f :: r, ts, h => by
    rcases List.mem_append.1 h with h | h
    . exact ⟨f, List.mem_cons_self, crash1_name h⟩
    . obtain ⟨x, h1, h2⟩ := crashL_name h
      exact ⟨x, List.mem_cons_of_mem _ h1, h2⟩

def Calm (D : DiskS) : Prop := D.down = false /\ D.armed = -1
theorem Calm.step {D : DiskS} (h : Calm D) (L : List FileS) : Calm { stepD D with files := L } := by
  unfold Calm stepD
  rw [if_neg (by rw [h.2]; decide), if_neg (by rw [h.2]; decide)]
  exact h
end Go.Proofs.YtjdglpcnkiioeaaGreat
namespace Go.Proofs.YtjdglpcnkiioeaaGreat
open Go.RowKit Go.Maps Go.Proofs.Own Go.Shelf

structure WF where
  f : Nat
  m : Nat
  s : Nat
structure WalS where
  b : Nat
  es : List EntS
  fs : List WF
  safe : Nat
def WalS.last (L : WalS) : Nat := L.b + L.es.length
def leftW (n : Nat) : Nat := (((H59 : Int) - n) % 18446744073709551616).toNat
def popW (D : DiskS) (L : WalS) : DiskS × WalS × Nat :=
  match L.fs.getLast? with
  | none => (D, L, 0)
  | some f => if (removeD D (nameW f.f)).2 ≠ 0 then ((removeD D (nameW f.f)).1, L, (removeD D (nameW f.f)).2)
    else ((removeD D (nameW f.f)).1, ⟨L.b, L.es.take (L.es.length - f.m), L.fs.dropLast, min L.safe (L.es.length - f.m)⟩, 0)
def resetF (base : Nat) : Nat -> DiskS -> WalS -> DiskS × WalS × Nat
  | 0, D, _ => (D, ⟨base, [], [], 0⟩, 0)
  | n + 1, D, L => if L.fs = [] then (D, ⟨base, [], [], 0⟩, 0) else if (popW D L).2.2 ≠ 0 then popW D L else resetF base n (popW D L).1 (popW D L).2.1
def resetW (D : DiskS) (L : WalS) (base : Nat) : DiskS × WalS × Nat := if H59 <= base then (D, L, 2) else resetF base L.fs.length D L
def syncW (D : DiskS) (L : WalS) : DiskS × WalS × Nat :=
  if L.safe = L.es.length then (D, L, 0) else match L.fs.getLast? with
    | none => (D, L, 0)
    | some f => if (syncD D (nameW f.f)).2 ≠ 0 then ((syncD D (nameW f.f)).1, L, (syncD D (nameW f.f)).2) else ((syncD D (nameW f.f)).1, { L with safe := L.es.length }, 0)
def addW (D : DiskS) (L : WalS) (f : WF) (ms : List EntS) : DiskS × WalS × Nat :=
  if (appendD D (nameW f.f) (linesW (L.last + 1) ms)).2 ≠ 0 then ((appendD D (nameW f.f) (linesW (L.last + 1) ms)).1, L, (appendD D (nameW f.f) (linesW (L.last + 1) ms)).2)
  else ((appendD D (nameW f.f) (linesW (L.last + 1) ms)).1, ⟨L.b, L.es ++ ms, L.fs.dropLast ++ [⟨f.f, f.m + ms.length, f.s + (linesW (L.last + 1) ms).length⟩], L.safe⟩, 0)
def newW (D : DiskS) (L : WalS) (ms : List EntS) : DiskS × WalS × Nat :=
  if (syncW D L).2.2 ≠ 0 then syncW D L
  else if (appendD (syncW D L).1 (nameW (L.last + 1)) (segW (L.last + 1) ms)).2 ≠ 0 then ((appendD (syncW D L).1 (nameW (L.last + 1)) (segW (L.last + 1) ms)).1, (syncW D L).2.1, (appendD (syncW D L).1 (nameW (L.last + 1)) (segW (L.last + 1) ms)).2)
  else ((appendD (syncW D L).1 (nameW (L.last + 1)) (segW (L.last + 1) ms)).1, ⟨L.b, L.es ++ ms, L.fs ++ [⟨L.last + 1, ms.length, (segW (L.last + 1) ms).length⟩], (syncW D L).2.1.safe⟩, 0)
def appendW (D : DiskS) (L : WalS) (ms : List EntS) : DiskS × WalS × Nat :=
  if ¬ (∀ e ∈ ms, e.ok) then (D, L, 2) else if leftW L.last < ms.length then (D, L, 10) else if ms = [] then (D, L, 0)
  else match L.fs.getLast? with
    | none => newW D L ms
    | some f => if f.s < 1024 then addW D L f ms else newW D L ms
def dropF (upto : Nat) : Nat -> DiskS -> WalS -> DiskS × WalS × Nat
  | 0, D, L => (D, L, 0)
  | n + 1, D, L => match L.fs with
    | f :: g :: r => if g.f <= upto + 1 then
        (if (removeD D (nameW f.f)).2 ≠ 0 then ((removeD D (nameW f.f)).1, L, (removeD D (nameW f.f)).2)
         else dropF upto n (removeD D (nameW f.f)).1 ⟨L.b + f.m, L.es.drop f.m, g :: r, L.safe - f.m⟩)
      else (D, L, 0)
    | _ => (D, L, 0)
def dropW (D : DiskS) (L : WalS) (upto : Nat) : DiskS × WalS × Nat := if L.last < upto then (D, L, 2) else dropF upto L.fs.length D L
def takeW (L : WalS) (first : Nat) (b : List Nat) (last : Bool) : Bool × WalS × Nat :=
  if (segR b).f ≠ first /\ last = true then (false, L, 0)
  else if (segR b).f ≠ first \/ (last = false /\ (segR b).g ≠ b.length) \/ (L.fs ≠ [] /\ first ≠ L.last + 1) then (true, L, 20)
  else (true, ⟨if L.fs = [] then first - 1 else L.b, L.es ++ (segR b).es, L.fs ++ [⟨first, (segR b).es.length, (segR b).g⟩], L.safe⟩, 0)
def loadW : List ByteArray -> DiskS -> WalS -> DiskS × WalS × Nat
  | [], D, L => (D, L, 0)
  | n :: r, D, L =>
    if fileE D n ≠ 0 then (D, L, fileE D n)
    else if (takeW L (firstN (natsOf n)) (getF D n).all (decide (r = []))).1 = false then
      (if (removeD D n).2 ≠ 0 then ((removeD D n).1, (takeW L (firstN (natsOf n)) (getF D n).all (decide (r = []))).2.1, (removeD D n).2)
       else loadW r (removeD D n).1 (takeW L (firstN (natsOf n)) (getF D n).all (decide (r = []))).2.1)
    else if (takeW L (firstN (natsOf n)) (getF D n).all (decide (r = []))).2.2 ≠ 0 then (D, (takeW L (firstN (natsOf n)) (getF D n).all (decide (r = []))).2.1, (takeW L (firstN (natsOf n)) (getF D n).all (decide (r = []))).2.2)
    else loadW r D (takeW L (firstN (natsOf n)) (getF D n).all (decide (r = []))).2.1
def settleW (D : DiskS) (L : WalS) : DiskS × Nat :=
  match L.fs.getLast? with
  | none => (D, 0)
  | some f =>
    if fileE D (nameW f.f) ≠ 0 then (D, fileE D (nameW f.f))
    else if f.s < (getF D (nameW f.f)).all.length then
      (if (cutD D (nameW f.f) f.s).2 ≠ 0 then cutD D (nameW f.f) f.s else syncD (cutD D (nameW f.f) f.s).1 (nameW f.f))
    else syncD D (nameW f.f)
def isW (f : FileS) : Bool := decide (firstN (natsOf f.name) ≠ 0)
def logF (D : DiskS) : List FileS := D.files.filter isW
def namesW (D : DiskS) : List ByteArray := (logF D).map (·.name)
def closeW (D : DiskS) (L : WalS) (base : Nat) : DiskS × Option WalS × Nat :=
  let r := if L.fs = [] \/ L.last < base then resetW D L base else (D, L, 0)
  if r.2.2 ≠ 0 then (r.1, none, r.2.2) else if base < r.2.1.b then (r.1, none, 20) else (r.1, some { r.2.1 with safe := r.2.1.es.length }, 0)
def openE (D : DiskS) (L : WalS) (base : Nat) : DiskS × Option WalS × Nat :=
  if (settleW D L).2 ≠ 0 then ((settleW D L).1, none, (settleW D L).2) else closeW (settleW D L).1 L base
def openW (D : DiskS) (base : Nat) : DiskS × Option WalS × Nat :=
  if D.down = true then (D, none, 50) else if H59 <= base then (D, none, 2)
  else if (loadW (namesW D) D ⟨0, [], [], 0⟩).2.2 ≠ 0 then ((loadW (namesW D) D ⟨0, [], [], 0⟩).1, none, (loadW (namesW D) D ⟨0, [], [], 0⟩).2.2)
  else openE (loadW (namesW D) D ⟨0, [], [], 0⟩).1 (loadW (namesW D) D ⟨0, [], [], 0⟩).2.1 base
theorem filter_del (n : ByteArray) (L : List FileS) : (delFile n L).filter isW = delFile n (L.filter isW) := by
  unfold delFile
  rw [List.filter_filter, List.filter_filter]
  congr 1
  funext g
  exact Bool.and_comm _ _
end Go.Proofs.YtjdglpcnkiioeaaGreat
namespace Go.Proofs.YtjdglpcnkiioeaaGreat
open Go.RowKit Go.Maps Go.Proofs.Own

theorem stepD_down {D : DiskS} (hd : D.down = false) : (stepD D).down = true ↔ D.armed = 0 := by
  unfold stepD
  by_cases h : D.armed = 0
  . rw [if_pos h]; simp [h]
  . rw [if_neg h]
    split <;> simp [h, hd]
theorem stepD_up {D : DiskS} (hd : D.down = false) (ha : ¬ D.armed = 0) : (stepD D).down = false := by
  have := (not_congr (stepD_down hd)).2 ha
  simpa using this
end Go.Proofs.YtjdglpcnkiioeaaGreat
namespace Go.Proofs.YtjdglpcnkiioeaaGreat
open Go.RowKit Go.Maps Go.Proofs.Own Go.Shelf

theorem nameLt_trans {a b c : ByteArray} (h : nameLt a b = true) (g : nameLt b c = true) : nameLt a c = true := WideShapes.bytes_trans _ _ _ h g
theorem filter_ins_yes {f : FileS} (h : isW f = true) : ∀ {L : List FileS}, Rising L -> (insFile f L).filter isW = insFile f (L.filter isW)
  | [], _ => by simp [insFile, h]
  | g :: r, hr => by
    obtain ⟨h1, h2⟩ := List.pairwise_cons.1 hr
    have ih := filter_ins_yes h h2
    by_cases hl : nameLt f.name g.name = true
    . have hi : ∀ M : List FileS, (∀ x ∈ M, nameLt f.name x.name = true) -> insFile f M = f :: M := fun M hM => by
        cases M with
        | nil => rfl
        | cons x s =>
          unfold insFile
          rw [if_pos (hM x (List.mem_cons_self ..))]
      rw [hi (g :: r) (fun x hx => by
        rcases List.mem_cons.1 hx with rfl | hx
        . exact hl
        . exact nameLt_trans hl (h1 x hx)), List.filter_cons_of_pos h, hi _ (fun x hx => by
        rcases List.mem_cons.1 (List.mem_filter.1 hx).1 with rfl | hx
        . exact hl
        . exact nameLt_trans hl (h1 x hx))]
    . have hi : ∀ M : List FileS, insFile f (g :: M) = g :: insFile f M := fun M => by
        conv => lhs; unfold insFile
        rw [if_neg hl]
      rw [hi]
      by_cases hg : isW g = true
      . rw [List.filter_cons_of_pos hg, List.filter_cons_of_pos hg, hi, ih]
      . rw [List.filter_cons_of_neg hg, List.filter_cons_of_neg hg, ih]
theorem filter_put_yes {f : FileS} (h : isW f = true) {L : List FileS} (hr : Rising L) : (putFile f L).filter isW = putFile f (L.filter isW) := by
  unfold putFile
  rw [filter_ins_yes (L := delFile f.name L) h (List.Pairwise.sublist (List.filter_sublist ..) hr), filter_del]
theorem find_filter {n : ByteArray} (h : firstN (natsOf n) ≠ 0) (L : List FileS) : findFile n (L.filter isW) = findFile n L := by
  unfold findFile
  rw [List.find?_filter]
  congr 1
  funext g
  by_cases e : g.name = n
  . have : isW g = true := by unfold isW; rw [e]; exact decide_eq_true h
    simp [this]
  . simp [e]
structure Pc where
  f : Nat
  es : List EntS
  k : Nat
def Pc.w (p : Pc) : List Nat := segW p.f p.es
def Pc.file (p : Pc) : FileS := ⟨nameW p.f, p.w, p.k⟩
def Pc.wf (p : Pc) : WF := ⟨p.f, p.es.length, p.w.length⟩
def esOf (P : List Pc) : List EntS := P.flatMap Pc.es
def Chain : Nat -> List Pc -> Prop
  | _, [] => True
  | n, p :: r => p.f = n /\ Chain (n + p.es.length) r
theorem esOf_app (A B : List Pc) : esOf (A ++ B) = esOf A ++ esOf B := List.flatMap_append
theorem esOf_one (p : Pc) : esOf [p] = p.es := List.append_nil _
theorem esOf_cons (p : Pc) (r : List Pc) : esOf (p :: r) = p.es ++ esOf r := rfl
theorem Chain.app {A B : List Pc} : ∀ {n : Nat}, Chain n (A ++ B) ↔ Chain n A /\ Chain (n + (esOf A).length) B := by
  induction A with
  | nil => intro n; simp [Chain, esOf]
  | cons p r ih =>
    intro n
    simp only [List.cons_append, Chain, ih, esOf_cons, List.length_append, Nat.add_assoc, and_assoc]
theorem Chain.range {P : List Pc} : ∀ {n : Nat}, Chain n P -> ∀ p ∈ P, n <= p.f /\ p.f + p.es.length <= n + (esOf P).length := by
  induction P with
  | nil => intro n _ p hp; cases hp
  | cons q r ih =>
    intro n h p hp
    rw [esOf_cons, List.length_append]
    rcases List.mem_cons.1 hp with rfl | hp
    . have := h.1; omega
    . have := ih h.2 p hp
      omega
structure WInv (D : DiskS) (L : WalS) (P : List Pc) : Prop where
  fil : logF D = P.map Pc.file
  fs : L.fs = P.map Pc.wf
  es : L.es = esOf P
  ch : Chain (L.b + 1) P
  ok : ∀ e ∈ L.es, e.ok
  hi : L.b + L.es.length <= H59
  full : ∀ p ∈ P.dropLast, p.k = p.w.length /\ 1024 <= p.w.length /\ p.es ≠ []
  safe : L.safe <= L.es.length
  kept : ∀ A z, P = A ++ [z] -> (esOf A).length <= L.safe /\ ((z.k = 0 /\ L.safe = (esOf A).length /\ z.es ≠ []) \/ ∃ j, j <= z.es.length /\ L.safe <= (esOf A).length + j /\ z.k = (segW z.f (z.es.take j)).length)
  lo : L.b < H59 /\ ∀ p ∈ P, p.f <= H59

theorem nameLt_total {a b : ByteArray} (h : a ≠ b) : nameLt a b = true \/ nameLt b a = true := by
  refine WideAt.bytes_total _ _ fun e => h ?_
  cases a with
  | mk x => cases b with
    | mk y =>
      simp only at e
      rw [Array.toList_inj.1 e]
theorem Rising.del {L : List FileS} (h : Rising L) (n : ByteArray) : Rising (delFile n L) := List.Pairwise.sublist (List.filter_sublist ..) h
theorem Rising.ins {f : FileS} : ∀ {L : List FileS}, Rising L -> (∀ g ∈ L, ¬ g.name = f.name) -> Rising (insFile f L)
  | [], _, _ => List.pairwise_singleton _ _
  | g :: r, h, hn => by
    obtain ⟨h1, h2⟩ := List.pairwise_cons.1 h
    unfold insFile
    by_cases hl : nameLt f.name g.name = true
    . rw [if_pos hl]
      refine List.pairwise_cons.2 ⟨fun x hx => ?_, h⟩
      rcases List.mem_cons.1 hx with rfl | hx
      . exact hl
      . exact nameLt_trans hl (h1 x hx)
    . rw [if_neg hl]
      refine List.pairwise_cons.2 ⟨fun x hx => ?_, Rising.ins h2 fun x hx => hn x (List.mem_cons_of_mem _ hx)⟩
      rcases mem_ins.1 hx with rfl | hx
      . rcases nameLt_total (hn g (List.mem_cons_self ..)) with e | e
        . exact e
        . exact absurd e hl
      . exact h1 x hx
theorem Rising.put {L : List FileS} (h : Rising L) (f : FileS) : Rising (putFile f L) := Rising.ins (h.del _) fun _g hg => (mem_del.1 hg).2
theorem rising_logF {D : DiskS} (h : Rising D.files) : Rising (logF D) := List.Pairwise.sublist (List.filter_sublist ..) h
theorem remove_cases {D : DiskS} {n : ByteArray} {f : FileS} (hd : D.down = false) (hf : findFile n D.files = some f) :
    ((removeD D n).2 = 50 /\ (removeD D n).1.down = true /\ (removeD D n).1.files = D.files) \/ ((removeD D n).2 = 0 /\ (removeD D n).1.down = false /\ (removeD D n).1.files = delFile n D.files) := by
  unfold removeD
  rw [hf]
  simp only
  rw [if_neg (by rw [hd]; decide)]
  by_cases ha : D.armed = 0
  . rw [if_pos ha]
    exact .inl ⟨rfl, (stepD_down hd).2 ha, stepD_files D⟩
  . rw [if_neg ha]
    exact .inr ⟨rfl, stepD_up hd ha, rfl⟩
theorem sync_cases {D : DiskS} {n : ByteArray} {f : FileS} (hd : D.down = false) (hf : findFile n D.files = some f) :
    ((syncD D n).2 = 50 /\ (syncD D n).1.down = true /\ (syncD D n).1.files = D.files) \/ ((syncD D n).2 = 0 /\ (syncD D n).1.down = false /\ (syncD D n).1.files = putFile { f with kept := f.all.length } D.files) := by
  unfold syncD
  rw [hf]
  simp only
  rw [if_neg (by rw [hd]; decide)]
  by_cases ha : D.armed = 0
  . rw [if_pos ha]
    exact .inl ⟨rfl, (stepD_down hd).2 ha, stepD_files D⟩
  . rw [if_neg ha]
    exact .inr ⟨rfl, stepD_up hd ha, rfl⟩
theorem append_cases {D : DiskS} {n : ByteArray} {b : List Nat} (hd : D.down = false) :
    ((appendD D n b).2 ≠ 0 /\ (appendD D n b).1 = D) \/ (appendD D n b).1.files = putFile { getF D n with all := (getF D n).all ++ b } D.files /\ (((appendD D n b).2 = 50 /\ (appendD D n b).1.down = true) \/ ((appendD D n b).2 = 0 /\ (appendD D n b).1.down = false)) := by
  unfold appendD
  by_cases h : appE D n b ≠ 0
  . rw [if_pos h]
    exact .inl ⟨h, rfl⟩
  . rw [if_neg h]
    refine .inr ⟨stepD_files _, ?_⟩
    show (stepE D = 50 /\ (stepD (appD D n b)).down = true) \/ (stepE D = 0 /\ (stepD (appD D n b)).down = false)
    have h1 : (appD D n b).down = false := hd
    have h2 : (appD D n b).armed = D.armed := rfl
    unfold stepE
    by_cases ha : D.armed = 0
    . rw [if_pos ha]
      exact .inl ⟨rfl, (stepD_down h1).2 (h2.trans ha)⟩
    . rw [if_neg ha]
      exact .inr ⟨rfl, stepD_up h1 (fun e => ha (h2.symm.trans e))⟩
theorem isW_piece {p : Pc} (h : 1 <= p.f /\ p.f < 1152921504606846976) : isW p.file = true := by
  unfold isW
  show decide (firstN (natsOf (nameW p.f)) ≠ 0) = true
  rw [first_nameW h.1 h.2]
  exact decide_eq_true (by omega)
theorem isW_name {n : Nat} (h : 1 <= n /\ n < 1152921504606846976) : firstN (natsOf (nameW n)) ≠ 0 := by
  rw [first_nameW h.1 h.2]
  omega
theorem log_mid {D : DiskS} {A B : List Pc} {z : Pc} (hr : Rising D.files) (hf : logF D = (A ++ z :: B).map Pc.file) : Rising (A.map Pc.file ++ z.file :: B.map Pc.file) := by
  have := rising_logF hr
  rw [hf] at this
  simpa using this
theorem log_find {D : DiskS} {A B : List Pc} {z : Pc} (hr : Rising D.files) (hf : logF D = (A ++ z :: B).map Pc.file) (hz : 1 <= z.f /\ z.f < 1152921504606846976) : findFile (nameW z.f) D.files = some z.file := by
  rw [<- find_filter (isW_name hz)]
  show findFile z.file.name (logF D) = _
  rw [hf]
  simpa using find_mid (log_mid hr hf)
theorem log_del {D : DiskS} {A B : List Pc} {z : Pc} (hr : Rising D.files) (hf : logF D = (A ++ z :: B).map Pc.file) : (delFile (nameW z.f) D.files).filter isW = (A ++ B).map Pc.file := by
  rw [filter_del]
  show delFile z.file.name (logF D) = _
  rw [hf]
  simpa using del_mid (log_mid hr hf)
theorem log_put {D : DiskS} {A B : List Pc} {z z' : Pc} (hr : Rising D.files) (hf : logF D = (A ++ z :: B).map Pc.file) (hz : 1 <= z.f /\ z.f < 1152921504606846976) (he : z'.f = z.f) : (putFile z'.file D.files).filter isW = (A ++ z' :: B).map Pc.file := by
  rw [filter_put_yes (isW_piece (by rw [he]; exact hz)) hr]
  show putFile z'.file (logF D) = _
  rw [hf]
  have := put_mid (f' := z'.file) (log_mid hr hf) (by show nameW z'.f = nameW z.f; rw [he])
  simpa using this
theorem log_new {D : DiskS} {P : List Pc} {z : Pc} (hr : Rising D.files) (hf : logF D = P.map Pc.file) (hz : 1 <= z.f /\ z.f < 1152921504606846976) (hl : ∀ p ∈ P, 1 <= p.f /\ p.f < z.f) :
    findFile (nameW z.f) D.files = none /\ (putFile z.file D.files).filter isW = (P ++ [z]).map Pc.file := by
  have hlt : ∀ g ∈ P.map Pc.file, nameLt g.name z.file.name = true := fun g hg => by
    obtain ⟨p, hp, rfl⟩ := List.mem_map.1 hg
    have := hl p hp
    exact nameW_mono (by omega) (by omega) hz.2
  have hne : ∀ g ∈ P.map Pc.file, ¬ g.name = z.file.name := fun g hg => nameLt_ne (hlt g hg)
  refine ⟨?_, ?_⟩
  . rw [<- find_filter (isW_name hz)]
    show findFile z.file.name (logF D) = none
    rw [hf]
    exact find_none hne
  . rw [filter_put_yes (isW_piece hz) hr]
    show insFile z.file (delFile z.file.name (logF D)) = _
    rw [hf]
    have hd : delFile z.file.name (P.map Pc.file) = P.map Pc.file := by
      unfold delFile
      exact List.filter_eq_self.2 fun g hg => by simpa using hne g hg
    rw [hd]
    have := ins_mid (f := z.file) (A := P.map Pc.file) (B := []) hlt (by intro g hg; cases hg)
    simpa using this

theorem WInv.same {D D' : DiskS} {L : WalS} {P : List Pc} (h : WInv D L P) (hf : D'.files = D.files) : WInv D' L P :=
  ⟨by have := h.fil; unfold logF at this ⊢; rw [hf]; exact this, h.fs, h.es, h.ch, h.ok, h.hi, h.full, h.safe, h.kept, h.lo⟩
theorem lo_put {b : Nat} {A : List Pc} {z z' : Pc} (h : b < H59 /\ ∀ p ∈ A ++ [z], p.f <= H59) (e : z'.f = z.f) : b < H59 /\ ∀ p ∈ A ++ [z'], p.f <= H59 := by
  refine ⟨h.1, fun p hp => ?_⟩
  rcases List.mem_append.1 hp with hp | hp
  . exact h.2 p (List.mem_append_left _ hp)
  . obtain rfl := List.mem_singleton.1 hp
    rw [e]
    exact h.2 z (List.mem_append_right _ (List.mem_singleton_self z))
theorem WInv.range {D : DiskS} {L : WalS} {P : List Pc} (h : WInv D L P) : ∀ p ∈ P, 1 <= p.f /\ p.f < 1152921504606846976 /\ L.b + 1 <= p.f /\ p.f + p.es.length <= L.last + 1 := by
  intro p hp
  have h1 := h.ch.range p hp
  have h2 := h.hi
  have h3 := h.es
  rw [<- h3] at h1
  unfold H59 at h2
  unfold WalS.last
  omega
theorem WInv.in60 {D : DiskS} {L : WalS} {P : List Pc} (h : WInv D L P) {p : Pc} (hp : p ∈ P) : 1 <= p.f /\ p.f < 1152921504606846976 := let ⟨a, b, _⟩ := h.range p hp; ⟨a, b⟩
theorem fs_last {D : DiskS} {L : WalS} {A : List Pc} {z : Pc} (h : WInv D L (A ++ [z])) : L.fs.getLast? = some z.wf /\ L.fs.dropLast = A.map Pc.wf := by
  rw [h.fs, List.map_append]
  simp
theorem WInv.safeAt {D : DiskS} {L : WalS} {A : List Pc} {z : Pc} (h : WInv D L (A ++ [z])) : (esOf A).length <= L.safe := (h.kept A z rfl).1
theorem split_last {P : List Pc} (h : P ≠ []) : ∃ A z, P = A ++ [z] := ⟨P.dropLast, P.getLast h, (List.dropLast_concat_getLast h).symm⟩
theorem sync_law {D : DiskS} {L : WalS} {P : List Pc} (h : WInv D L P) (hd : D.down = false) (hr : Rising D.files) :
    ((syncW D L).2.2 = 50 /\ (syncW D L).1.down = true /\ (syncW D L).2.1 = L /\ WInv (syncW D L).1 L P) \/
    ((syncW D L).2.2 = 0 /\ (syncW D L).1.down = false /\ Rising (syncW D L).1.files /\ (syncW D L).2.1 = { L with safe := L.es.length } /\
      ∃ P', WInv (syncW D L).1 { L with safe := L.es.length } P' /\ P'.map Pc.wf = P.map Pc.wf /\ ∀ p ∈ P', p.k = p.w.length) := by
  unfold syncW
  by_cases hs : L.safe = L.es.length
  . rw [if_pos hs]
    have hL : L = { L with safe := L.es.length } := by rw [<- hs]
    refine .inr ⟨rfl, hd, hr, hL, P, by rw [<- hL]; exact h, rfl, ?_⟩
    by_cases hP : P = []
    . subst hP
      intro p hp
      cases hp
    . obtain ⟨A, z, rfl⟩ := split_last hP
      have hfull : ∀ p ∈ A, p.k = p.w.length /\ 1024 <= p.w.length /\ p.es ≠ [] := by have := h.full; rwa [List.dropLast_concat] at this
      have hel : L.es.length = (esOf A).length + z.es.length := by rw [h.es, esOf_app, esOf_one, List.length_append]
      intro p hp
      rcases List.mem_append.1 hp with hp | hp
      . exact (hfull p hp).1
      . obtain rfl := List.mem_singleton.1 hp
        obtain ⟨_, ⟨h1, h2, h3⟩ | ⟨j, h1, h2, h3⟩⟩ := h.kept A p rfl
        . exact absurd (List.length_eq_zero_iff.1 (by omega)) h3
        . have hj : j = p.es.length := by omega
          rw [h3, hj, List.take_length]
          rfl
  . rw [if_neg hs]
    have hP : P ≠ [] := by
      rintro rfl
      have h1 := h.es
      have h2 := h.safe
      rw [h1] at h2 hs
      exact hs (Nat.le_antisymm h2 (Nat.zero_le _))
    obtain ⟨A, z, rfl⟩ := split_last hP
    have hz : z ∈ A ++ [z] := List.mem_append_right _ (List.mem_singleton_self z)
    have hf := log_find hr h.fil (h.in60 hz)
    have hg := fs_last h
    have hfull : ∀ p ∈ A, p.k = p.w.length /\ 1024 <= p.w.length /\ p.es ≠ [] := by have := h.full; rwa [List.dropLast_concat] at this
    rw [hg.1]
    simp only
    rcases sync_cases hd hf with ⟨h1, h2, h3⟩ | ⟨h1, h2, h3⟩
    . have h1' : (syncD D (nameW z.wf.f)).2 = 50 := h1
      rw [if_pos (by rw [h1']; decide)]
      exact .inl ⟨h1', h2, rfl, h.same h3⟩
    . have h1' : (syncD D (nameW z.wf.f)).2 = 0 := h1
      rw [if_neg (by rw [h1']; decide)]
      have hwf : (A ++ [(⟨z.f, z.es, z.w.length⟩ : Pc)]).map Pc.wf = (A ++ [z]).map Pc.wf := by
        rw [List.map_append, List.map_append]
        rfl
      have hes : esOf (A ++ [(⟨z.f, z.es, z.w.length⟩ : Pc)]) = esOf (A ++ [z]) := by
        rw [esOf_app, esOf_app]
        rfl
      refine .inr ⟨rfl, h2, ?_, rfl, A ++ [⟨z.f, z.es, z.w.length⟩], ⟨?_, ?_, ?_, ?_, h.ok, h.hi, ?_, Nat.le_refl _, ?_, lo_put h.lo rfl⟩, hwf, ?_⟩
      . show Rising (syncD D (nameW z.f)).1.files
        rw [h3]
        exact hr.put _
      . show (syncD D (nameW z.f)).1.files.filter isW = _
        rw [h3]
        exact log_put (z' := ⟨z.f, z.es, z.w.length⟩) hr h.fil (h.in60 hz) rfl
      . rw [hwf]
        exact h.fs
      . rw [hes]
        exact h.es
      . have := Chain.app.1 h.ch
        exact Chain.app.2 ⟨this.1, this.2.1, trivial⟩
      . rw [List.dropLast_concat]
        exact hfull
      . intro B y e
        obtain ⟨rfl, e2⟩ := List.append_inj' e rfl
        obtain rfl := List.singleton_inj.1 e2
        have hel : L.es.length = (esOf A).length + z.es.length := by rw [h.es, esOf_app, esOf_one, List.length_append]
        refine ⟨by show (esOf A).length <= L.es.length; omega, .inr ⟨z.es.length, Nat.le_refl _, by show L.es.length <= (esOf A).length + z.es.length; omega, ?_⟩⟩
        show z.w.length = (segW z.f (z.es.take z.es.length)).length
        rw [List.take_length]
        rfl
      . intro p hp
        rcases List.mem_append.1 hp with hp | hp
        . exact (hfull p hp).1
        . obtain rfl := List.mem_singleton.1 hp
          rfl

def OpUp (r : DiskS × WalS × Nat) : Prop := r.1.down = false /\ Rising r.1.files /\ ∃ P, WInv r.1 r.2.1 P
def OpDn (ms : List EntS) (r : DiskS × WalS × Nat) : Prop := r.1.down = true /\ r.2.2 = 50 /\ ∃ L P, WInv r.1 L P /\ L.b = r.2.1.b /\ L.safe = r.2.1.safe /\ (L.es = r.2.1.es \/ L.es = r.2.1.es ++ ms)
theorem linesW_app : ∀ (a b : List EntS) (i : Nat), linesW i (a ++ b) = linesW i a ++ linesW (i + a.length) b
  | [], b, i => rfl
  | e :: a, b, i => by
    show lineW i e ++ linesW (i + 1) (a ++ b) = (lineW i e ++ linesW (i + 1) a) ++ linesW (i + (a.length + 1)) b
    rw [linesW_app a b (i + 1), List.append_assoc, show i + 1 + a.length = i + (a.length + 1) by omega]
theorem segW_app (f : Nat) (a b : List EntS) : segW f (a ++ b) = segW f a ++ linesW (f + a.length) b := by
  unfold segW
  rw [linesW_app, List.append_assoc]
theorem headW_short {n : Nat} (h : n <= 1152921504606846976) : (headW n).length <= 28 /\ 8 <= (headW n).length := by
  have := numW_len (n := n) (by omega)
  unfold headW
  rw [length_frP]
  omega
theorem leftW_le {n m : Nat} (hn : n <= H59) (h : ¬ leftW n < m) : n + m <= H59 := by
  unfold leftW H59 at *
  omega
theorem add_law {D : DiskS} {L : WalS} {A : List Pc} {z : Pc} (h : WInv D L (A ++ [z])) (hd : D.down = false) (hr : Rising D.files) {ms : List EntS} (hok : ∀ e ∈ ms, e.ok) (hi : L.last + ms.length <= H59) :
    OpUp (addW D L z.wf ms) \/ OpDn ms (addW D L z.wf ms) := by
  have hz : z ∈ A ++ [z] := List.mem_append_right _ (List.mem_singleton_self z)
  have hf := log_find hr h.fil (h.in60 hz)
  have hg := fs_last h
  have hel : L.es.length = (esOf A).length + z.es.length := by rw [h.es, esOf_app, esOf_one, List.length_append]
  have hzf : z.f = L.b + 1 + (esOf A).length := (Chain.app.1 h.ch).2.1
  have hnx : z.f + z.es.length = L.last + 1 := by unfold WalS.last; omega
  have hw : z.w ++ linesW (L.last + 1) ms = segW z.f (z.es ++ ms) := by
    rw [segW_app, hnx]
    rfl
  have hes : esOf (A ++ [(⟨z.f, z.es ++ ms, z.k⟩ : Pc)]) = L.es ++ ms := by
    rw [esOf_app, esOf_one, h.es, esOf_app, esOf_one, List.append_assoc]
  have hnew : ∀ {D' : DiskS}, D'.files = putFile { getF D (nameW z.f) with all := (getF D (nameW z.f)).all ++ linesW (L.last + 1) ms } D.files ->
      WInv D' ⟨L.b, L.es ++ ms, L.fs.dropLast ++ [⟨z.f, z.es.length + ms.length, z.w.length + (linesW (L.last + 1) ms).length⟩], L.safe⟩ (A ++ [⟨z.f, z.es ++ ms, z.k⟩]) := by
    intro D' hD
    refine ⟨?_, ?_, hes.symm, ?_, ?_, ?_, ?_, ?_, ?_, lo_put h.lo rfl⟩
    . unfold logF
      rw [hD, getF_some hf]
      have := log_put (z' := ⟨z.f, z.es ++ ms, z.k⟩) hr h.fil (h.in60 hz) rfl
      rw [<- this]
      congr 2
      show ({ name := nameW z.f, all := z.w ++ linesW (L.last + 1) ms, kept := z.k } : FileS) = ⟨nameW z.f, segW z.f (z.es ++ ms), z.k⟩
      rw [hw]
    . show L.fs.dropLast ++ _ = _
      rw [hg.2, List.map_append]
      congr 1
      show [_] = [_]
      congr 1
      show (⟨z.f, z.es.length + ms.length, z.w.length + (linesW (L.last + 1) ms).length⟩ : WF) = ⟨z.f, (z.es ++ ms).length, (segW z.f (z.es ++ ms)).length⟩
      rw [<- hw, List.length_append, List.length_append]
    . have := Chain.app.1 h.ch
      exact Chain.app.2 ⟨this.1, this.2.1, trivial⟩
    . intro e he
      rcases List.mem_append.1 he with he | he
      . exact h.ok e he
      . exact hok e he
    . show L.b + (L.es ++ ms).length <= H59
      rw [List.length_append]
      unfold WalS.last at hi
      omega
    . rw [List.dropLast_concat]
      have := h.full
      rwa [List.dropLast_concat] at this
    . show L.safe <= (L.es ++ ms).length
      rw [List.length_append]
      have := h.safe
      omega
    . intro B y e
      obtain ⟨rfl, e2⟩ := List.append_inj' e rfl
      obtain rfl := List.singleton_inj.1 e2
      obtain ⟨h1, h2⟩ := h.kept A z rfl
      refine ⟨h1, ?_⟩
      rcases h2 with ⟨k0, k1, k2⟩ | ⟨j, j1, j2, j3⟩
      . exact .inl ⟨k0, k1, fun e => k2 (List.append_eq_nil_iff.1 e).1⟩
      . refine .inr ⟨j, ?_, j2, ?_⟩
        . show j <= (z.es ++ ms).length
          rw [List.length_append]
          omega
        . show z.k = (segW z.f ((z.es ++ ms).take j)).length
          rw [List.take_append_of_le_length j1]
          exact j3
  unfold addW
  rcases append_cases (n := nameW z.f) (b := linesW (L.last + 1) ms) hd with ⟨h1, h2⟩ | ⟨h1, ⟨h2, h3⟩ | ⟨h2, h3⟩⟩
  . rw [if_pos (show (appendD D (nameW z.wf.f) (linesW (L.last + 1) ms)).2 ≠ 0 from h1)]
    refine .inl ⟨?_, ?_, A ++ [z], ?_⟩
    . show (appendD D (nameW z.f) _).1.down = false
      rw [h2]; exact hd
    . show Rising (appendD D (nameW z.f) _).1.files
      rw [h2]; exact hr
    . show WInv (appendD D (nameW z.f) _).1 L (A ++ [z])
      rw [h2]; exact h
  . rw [if_pos (show (appendD D (nameW z.wf.f) (linesW (L.last + 1) ms)).2 ≠ 0 by rw [show (appendD D (nameW z.wf.f) (linesW (L.last + 1) ms)).2 = 50 from h2]; decide)]
    exact .inr ⟨h3, h2, _, _, hnew h1, rfl, rfl, .inr rfl⟩
  . rw [if_neg (show ¬ (appendD D (nameW z.wf.f) (linesW (L.last + 1) ms)).2 ≠ 0 by rw [show (appendD D (nameW z.wf.f) (linesW (L.last + 1) ms)).2 = 0 from h2]; decide)]
    refine .inl ⟨h3, ?_, _, hnew h1⟩
    show Rising (appendD D (nameW z.f) _).1.files
    rw [h1]
    exact hr.put _
theorem new_law {D : DiskS} {L : WalS} {P : List Pc} (h : WInv D L P) (hd : D.down = false) (hr : Rising D.files) {ms : List EntS} (hok : ∀ e ∈ ms, e.ok) (hi : L.last + ms.length <= H59) (hne : ms ≠ []) (hP : ∀ p ∈ P, 1024 <= p.w.length /\ p.es ≠ []) :
    OpUp (newW D L ms) \/ OpDn ms (newW D L ms) := by
  unfold newW
  rcases sync_law h hd hr with ⟨h1, h2, h3, h4⟩ | ⟨h1, h2, h3, h4, P', h5, h6, h7⟩
  . rw [if_pos (by rw [h1]; decide)]
    exact .inr ⟨h2, h1, L, P, h4, by rw [h3], by rw [h3], .inl (by rw [h3])⟩
  . rw [if_neg (by rw [h1]; decide)]
    have hP' : ∀ p ∈ P', p.k = p.w.length /\ 1024 <= p.w.length /\ p.es ≠ [] := by
      intro p hp
      have hm : p.wf ∈ P.map Pc.wf := by rw [<- h6]; exact List.mem_map_of_mem hp
      obtain ⟨q, hq, e⟩ := List.mem_map.1 hm
      obtain ⟨q1, q2⟩ := hP q hq
      have e1 : q.es.length = p.es.length := congrArg WF.m e
      have e2 : q.w.length = p.w.length := congrArg WF.s e
      refine ⟨h7 p hp, by omega, fun e3 => q2 (List.length_eq_zero_iff.1 ?_)⟩
      rw [e1, e3]
      rfl
    have hlast : ∀ p ∈ P', 1 <= p.f /\ p.f < L.last + 1 := by
      intro p hp
      have a := h5.range p hp
      have b := List.length_pos_iff.2 (hP' p hp).2.2
      have c : p.f + p.es.length <= L.last + 1 := a.2.2.2
      omega
    have hn60 : 1 <= L.last + 1 /\ L.last + 1 < 1152921504606846976 := by unfold H59 at hi; omega
    obtain ⟨g1, g2⟩ := log_new (z := ⟨L.last + 1, ms, 0⟩) h3 h5.fil hn60 hlast
    have hnew : ∀ {D' : DiskS}, D'.files = putFile { getF (syncW D L).1 (nameW (L.last + 1)) with all := (getF (syncW D L).1 (nameW (L.last + 1))).all ++ segW (L.last + 1) ms } (syncW D L).1.files ->
        WInv D' ⟨L.b, L.es ++ ms, L.fs ++ [⟨L.last + 1, ms.length, (segW (L.last + 1) ms).length⟩], (syncW D L).2.1.safe⟩ (P' ++ [⟨L.last + 1, ms, 0⟩]) := by
      intro D' hD
      have hsafe : (syncW D L).2.1.safe = L.es.length := by rw [h4]
      have hesP : L.es = esOf P' := h5.es
      refine ⟨?_, ?_, ?_, ?_, ?_, ?_, ?_, ?_, ?_, h.lo.1, fun p hp => ?_⟩
      rotate_right
      . rcases List.mem_append.1 hp with hp | hp
        . exact h5.lo.2 p hp
        . obtain rfl := List.mem_singleton.1 hp
          have := List.length_pos_iff.2 hne
          show L.last + 1 <= H59
          omega
      . unfold logF
        rw [hD, getF_none g1]
        exact g2
      . show L.fs ++ _ = _
        rw [List.map_append, h6, h.fs]
        rfl
      . show L.es ++ ms = _
        rw [esOf_app, esOf_one, <- hesP]
      . refine Chain.app.2 ⟨h5.ch, ?_, trivial⟩
        show L.last + 1 = L.b + 1 + (esOf P').length
        rw [<- hesP]
        unfold WalS.last
        omega
      . intro e he
        rcases List.mem_append.1 he with he | he
        . exact h.ok e he
        . exact hok e he
      . show L.b + (L.es ++ ms).length <= H59
        rw [List.length_append]
        unfold WalS.last at hi
        omega
      . rw [List.dropLast_concat]
        exact hP'
      . show (syncW D L).2.1.safe <= (L.es ++ ms).length
        rw [hsafe, List.length_append]
        omega
      . intro B y e
        obtain ⟨rfl, e2⟩ := List.append_inj' e rfl
        obtain rfl := List.singleton_inj.1 e2
        show (esOf P').length <= (syncW D L).2.1.safe /\ _
        rw [hsafe]
        exact ⟨by rw [hesP]; exact Nat.le_refl _, .inl ⟨rfl, by show L.es.length = _; rw [hesP], hne⟩⟩
    rcases append_cases (n := nameW (L.last + 1)) (b := segW (L.last + 1) ms) h2 with ⟨k1, k2⟩ | ⟨k1, ⟨k2, k3⟩ | ⟨k2, k3⟩⟩
    . rw [if_pos k1]
      refine .inl ⟨?_, ?_, P', ?_⟩
      . show (appendD (syncW D L).1 _ _).1.down = false
        rw [k2]; exact h2
      . show Rising (appendD (syncW D L).1 _ _).1.files
        rw [k2]; exact h3
      . show WInv (appendD (syncW D L).1 _ _).1 (syncW D L).2.1 P'
        rw [k2, h4]; exact h5
    . rw [if_pos (by rw [k2]; decide)]
      exact .inr ⟨k3, k2, _, _, hnew k1, by show L.b = (syncW D L).2.1.b; rw [h4], rfl, .inr (by show L.es ++ ms = (syncW D L).2.1.es ++ ms; rw [h4])⟩
    . rw [if_neg (by rw [k2]; decide)]
      refine .inl ⟨k3, ?_, _, hnew k1⟩
      show Rising (appendD (syncW D L).1 _ _).1.files
      rw [k1]
      exact h3.put _
theorem append_law {D : DiskS} {L : WalS} {P : List Pc} (h : WInv D L P) (hd : D.down = false) (hr : Rising D.files) (ms : List EntS) :
    OpUp (appendW D L ms) \/ OpDn ms (appendW D L ms) := by
  have hsame : ∀ e, OpUp (D, L, e) := fun e => ⟨hd, hr, P, h⟩
  unfold appendW
  by_cases hok : ∀ e ∈ ms, e.ok
  . rw [if_neg (by simpa using hok)]
    by_cases hl : leftW L.last < ms.length
    . rw [if_pos hl]
      exact .inl (hsame _)
    . rw [if_neg hl]
      have hi : L.last + ms.length <= H59 := leftW_le h.hi hl
      by_cases hne : ms = []
      . rw [if_pos hne]
        exact .inl (hsame _)
      . rw [if_neg hne]
        by_cases hP : P = []
        . subst hP
          have hfs : L.fs = [] := h.fs
          rw [hfs]
          exact new_law h hd hr hok hi hne fun p hp => by cases hp
        . obtain ⟨A, z, rfl⟩ := split_last hP
          rw [(fs_last h).1]
          simp only
          by_cases hs : z.wf.s < 1024
          . rw [if_pos hs]
            exact add_law h hd hr hok hi
          . rw [if_neg hs]
            refine new_law h hd hr hok hi hne fun p hp => ?_
            have hfull : ∀ p ∈ A, p.k = p.w.length /\ 1024 <= p.w.length /\ p.es ≠ [] := by have := h.full; rwa [List.dropLast_concat] at this
            rcases List.mem_append.1 hp with hp | hp
            . exact (hfull p hp).2
            . obtain rfl := List.mem_singleton.1 hp
              have hs' : 1024 <= p.w.length := by
                show 1024 <= p.wf.s
                omega
              refine ⟨hs', fun e => ?_⟩
              have h1 := (h.in60 (List.mem_append_right A (List.mem_singleton_self p))).2
              have h2 := headW_short (n := p.f) (by omega)
              have h3 : p.w = headW p.f := by
                unfold Pc.w segW
                rw [e]
                exact List.append_nil _
              rw [h3] at hs'
              omega
  . rw [if_pos (by simpa using hok)]
    exact .inl (hsame _)

theorem segW_take_le (f : Nat) (es : List EntS) {a b : Nat} (h : a <= b) : (segW f (es.take a)).length <= (segW f (es.take b)).length := by
  have : es.take b = es.take a ++ (es.drop a).take (b - a) := by
    conv => lhs; rw [show b = a + (b - a) by omega, List.take_add]
  rw [this, segW_app, List.length_append]
  omega
theorem sync_up {D : DiskS} {L : WalS} {P : List Pc} (h : WInv D L P) (hd : D.down = false) (hr : Rising D.files) : OpUp (syncW D L) \/ OpDn [] (syncW D L) := by
  rcases sync_law h hd hr with ⟨h1, h2, h3, h4⟩ | ⟨h1, h2, h3, h4, P', h5, _⟩
  . exact .inr ⟨h2, h1, L, P, h4, by rw [h3], by rw [h3], .inl (by rw [h3])⟩
  . exact .inl ⟨h2, h3, P', by rw [h4]; exact h5⟩
end Go.Proofs.YtjdglpcnkiioeaaGreat
namespace Go.Proofs.YtjdglpcnkiioeaaGreat
open Go.RowKit Go.Maps Go.Proofs.Own

theorem total_app (A B : List FileS) : total (A ++ B) = total A + total B := by simp [total]
theorem crash1_fits {f : FileS} (ts : List (Nat × Nat)) (hf : f.kept <= f.all.length) : total (crash1 f ts) <= f.all.length /\ ∀ g ∈ crash1 f ts, g.name = f.name /\ g.kept <= g.all.length := by
  refine ⟨?_, fun g hg => ⟨crash1_name hg, ?_⟩⟩
  . unfold crash1
    split
    . split
      . simp [total]
      . have := length_tornL (f.all.drop f.kept) (ts.headD (0, 0))
        rw [List.length_drop] at this
        rw [total_cons]
        simp only [total, List.map_nil, List.sum_nil, List.length_append, List.length_take]
        omega
    . split
      . simp [total]
      . rw [total_cons]
        simp [total]
  . unfold crash1 at hg
    split at hg
    . split at hg
      . cases hg
      . obtain rfl := List.mem_singleton.1 hg; exact Nat.le_refl _
    . split at hg
      . cases hg
      . obtain rfl := List.mem_singleton.1 hg; exact hf
theorem crashL_fits : ∀ (L : List FileS) (ts : List (Nat × Nat)), (∀ f ∈ L, f.name.size <= 16 /\ f.kept <= f.all.length) -> total (crashL L ts) <= total L /\ ∀ g ∈ crashL L ts, g.name.size <= 16 /\ g.kept <= g.all.length
  | [], _, _ => ⟨Nat.le_refl _, nofun⟩
  | f :: r, ts, h => by
    obtain ⟨h1, h2⟩ := crash1_fits ts (h f List.mem_cons_self).2
    obtain ⟨h3, h4⟩ := crashL_fits r (tears1 f ts) fun g hg => h g (List.mem_cons_of_mem _ hg)
    refine ⟨?_, fun g hg => ?_⟩
    . show total (crash1 f ts ++ crashL r (tears1 f ts)) <= _
      rw [total_app, total_cons]
      omega
    . rcases List.mem_append.1 hg with hg | hg
      . obtain ⟨e1, e2⟩ := h2 g hg
        exact ⟨by rw [e1]; exact (h f List.mem_cons_self).1, e2⟩
      . exact h4 g hg
theorem DGood.crash {D : DiskS} (h : DGood D) (ts : List (Nat × Nat)) : DGood (crashD D ts) := by
  obtain ⟨h1, h2⟩ := crashL_fits D.files ts h.wf.each
  have h3 := length_crashL D.files ts
  have h4 := h.tot
  have h5 := h.few
  exact ⟨⟨h.wf.room0, h.wf.room1, by show (-1 : Int) <= -1; decide, by show (-1 : Int) <= _; decide, h.wf.steps0, h.wf.steps1, by show (crashL D.files ts).length <= _; omega, h2⟩, by show total (crashL D.files ts) <= _; omega, by show (crashL D.files ts).length <= _; omega⟩
theorem DGood.boot {D : DiskS} (h : DGood D) : DGood (bootD D) :=
  ⟨⟨h.wf.room0, h.wf.room1, by show (-1 : Int) <= -1; decide, by show (-1 : Int) <= _; decide, h.wf.steps0, h.wf.steps1, h.wf.many, h.wf.each⟩, h.tot, h.few⟩
theorem DGood.arm {D : DiskS} (h : DGood D) (n : Int) (hn : n <= 9223372036854775807) : DGood (armD D n).1 := by
  unfold armD
  split
  . exact h
  . split
    . exact h
    . exact ⟨⟨h.wf.room0, h.wf.room1, by simp only; omega, hn, h.wf.steps0, h.wf.steps1, h.wf.many, h.wf.each⟩, h.tot, h.few⟩
def Fell (r : DiskS × Nat) : Prop := r.1.down = true -> r.2 = 50
theorem Fell.up {r : DiskS × Nat} (h : Fell r) (he : r.2 = 0) : r.1.down = false := by
  cases e : r.1.down with
  | false => rfl
  | true => have := h e; omega
theorem Fell.same {D : DiskS} (hd : D.down = false) (e : Nat) : Fell (D, e) := fun h => by simp only [hd] at h; cases h
theorem fell_files {D : DiskS} (hd : D.down = false) (ha : ¬ D.armed = 0) (L : List FileS) : Fell ({ stepD D with files := L }, 0) := fun h => by
  have h' : (stepD D).down = true := h
  rw [stepD_up hd ha] at h'
  cases h'
theorem fell_remove {D : DiskS} (hd : D.down = false) (n : ByteArray) : Fell (removeD D n) := by
  unfold removeD
  split
  . rw [if_neg (by rw [hd]; decide)]
    split
    . exact fun _ => rfl
    . rename_i ha; exact fell_files hd ha _
  . exact Fell.same hd _
theorem fell_gone {D : DiskS} (hd : D.down = false) (n : ByteArray) : Fell (vgoneD D n) := fun h => by
  have := fell_remove hd n h
  show (if (removeD D n).2 = 31 then 0 else (removeD D n).2) = 50
  rw [this]
  rfl
end Go.Proofs.YtjdglpcnkiioeaaGreat
namespace Go.Proofs.YtjdglpcnkiioeaaGreat
open Go.RowKit Go.Maps Go.Proofs.Own Go.Shelf

def CrashTo : List FileS -> List FileS -> Prop
  | [], M => M = []
  | f :: r, M => ∃ us M', M = crash1 f us ++ M' /\ CrashTo r M'
theorem crashTo_crashL : ∀ (L : List FileS) (ts : List (Nat × Nat)), CrashTo L (crashL L ts)
  | [], _ => rfl
  | f :: r, ts => ⟨ts, crashL r (tears1 f ts), rfl, crashTo_crashL r _⟩
theorem CrashTo.filter : ∀ {L M : List FileS}, CrashTo L M -> CrashTo (L.filter isW) (M.filter isW)
  | [], M, h => by
    have : M = [] := h
    subst this
    rfl
  | f :: r, M, h => by
    obtain ⟨us, M', rfl, h2⟩ := h
    have ih := CrashTo.filter h2
    have hn : ∀ g ∈ crash1 f us, isW g = isW f := fun g hg => by
      unfold isW
      rw [crash1_name hg]
    rw [List.filter_append]
    by_cases hf : isW f = true
    . rw [List.filter_cons_of_pos hf, List.filter_eq_self.2 fun g hg => (hn g hg).trans hf]
      exact ⟨us, _, rfl, ih⟩
    . have he : (crash1 f us).filter isW = [] := List.filter_eq_nil_iff.2 fun g hg => by rw [hn g hg]; exact hf
      rw [List.filter_cons_of_neg hf, he]
      exact ih
theorem crash1_full {f : FileS} (h : f.kept = f.all.length) (hne : f.all ≠ []) (us : List (Nat × Nat)) : crash1 f us = [f] := by
  unfold crash1
  rw [if_neg (by omega), if_neg hne]
theorem CrashTo.full : ∀ {A B M : List FileS}, (∀ f ∈ A, f.kept = f.all.length /\ f.all ≠ []) -> CrashTo (A ++ B) M -> ∃ M', M = A ++ M' /\ CrashTo B M'
  | [], B, M, _, h => ⟨M, rfl, h⟩
  | f :: A, B, M, hA, h => by
    obtain ⟨us, M', rfl, h2⟩ := h
    obtain ⟨M2, rfl, h3⟩ := CrashTo.full (A := A) (fun g hg => hA g (List.mem_cons_of_mem _ hg)) h2
    obtain ⟨h4, h5⟩ := hA f (List.mem_cons_self ..)
    rw [crash1_full h4 h5]
    exact ⟨M2, rfl, h3⟩
def linesF : Nat -> List EntS -> List (Nat × List Nat)
  | _, [] => []
  | i, e :: es => (2, lineB i e) :: linesF (i + 1) es
theorem framesW_lines : ∀ (es : List EntS) (i : Nat), framesW (linesF i es) = linesW i es
  | [], _ => rfl
  | e :: es, i => by
    show frP 2 (lineB i e) ++ framesW (linesF (i + 1) es) = frP 2 (lineB i e) ++ linesW (i + 1) es
    rw [framesW_lines es (i + 1)]
theorem linesF_take : ∀ (j : Nat) (es : List EntS) (i : Nat), (linesF i es).take j = linesF i (es.take j)
  | 0, _, _ => rfl
  | _ + 1, [], _ => rfl
  | j + 1, e :: es, i => by
    show (2, lineB i e) :: (linesF (i + 1) es).take j = (2, lineB i e) :: linesF (i + 1) (es.take j)
    rw [linesF_take j es (i + 1)]
theorem torn_lines (es : List EntS) (i : Nat) (x : Nat × Nat) : ∃ j R, tornL (linesW i es) x = linesW i (es.take j) ++ R /\ takeE R ≠ 0 := by
  obtain ⟨j, R, _, h2, h3⟩ := torn_frames (linesF i es) x
  rw [framesW_lines, linesF_take, framesW_lines] at h2
  exact ⟨j, R, h2, h3⟩
theorem torn_seg (es : List EntS) (f : Nat) (x : Nat × Nat) : takeE (tornL (segW f es) x) ≠ 0 \/ ∃ j R, tornL (segW f es) x = segW f (es.take j) ++ R /\ takeE R ≠ 0 := by
  obtain ⟨j, R, _, h2, h3⟩ := torn_frames ((1, numW f) :: linesF f es) x
  have e : framesW ((1, numW f) :: linesF f es) = segW f es := by
    show frP 1 (numW f) ++ framesW (linesF f es) = _
    rw [framesW_lines]
    rfl
  rw [e] at h2
  match j with
  | 0 =>
    left
    rw [h2]
    exact h3
  | j + 1 =>
    right
    refine ⟨j, R, ?_, h3⟩
    rw [h2]
    show (frP 1 (numW f) ++ framesW ((linesF f es).take j)) ++ R = (headW f ++ linesW f (es.take j)) ++ R
    rw [linesF_take, framesW_lines]
    rfl
theorem segW_ne (f : Nat) (es : List EntS) : segW f es ≠ [] := fun h => by
  have := (List.append_eq_nil_iff.1 h).1
  have h2 := length_frP 1 (numW f)
  unfold headW at this
  rw [this] at h2
  simp at h2
def Rest (f : Nat) (es : List EntS) (m : Nat) (M : List FileS) : Prop :=
  (m = 0 /\ M = []) \/ ∃ R, M = [⟨nameW f, R, R.length⟩] /\ ((m = 0 /\ takeE R ≠ 0) \/ ∃ j R', m <= j /\ j <= es.length /\ R = segW f (es.take j) ++ R' /\ takeE R' ≠ 0)
theorem crash_piece {z : Pc} {m : Nat} (h : (z.k = 0 /\ m = 0) \/ ∃ j, j <= z.es.length /\ m <= j /\ z.k = (segW z.f (z.es.take j)).length) (us : List (Nat × Nat)) : Rest z.f z.es m (crash1 z.file us) := by
  have hcut : ∀ {j R}, m <= j -> takeE R ≠ 0 -> ∃ j' R', m <= j' /\ j' <= z.es.length /\ segW z.f (z.es.take j) ++ R = segW z.f (z.es.take j') ++ R' /\ takeE R' ≠ 0 := by
    intro j R hm hR
    by_cases hj : j <= z.es.length
    . exact ⟨j, R, hm, hj, rfl, hR⟩
    . by_cases hm2 : m <= z.es.length
      . refine ⟨z.es.length, R, hm2, Nat.le_refl _, ?_, hR⟩
        rw [List.take_of_length_le (by omega), List.take_length]
      . exfalso
        rcases h with ⟨_, h2⟩ | ⟨j', h1, h2, _⟩ <;> omega
  unfold crash1
  by_cases hk : z.file.kept < z.file.all.length
  . rw [if_pos hk]
    have hR : ∃ R, z.file.all.take z.file.kept ++ tornL (z.file.all.drop z.file.kept) (us.headD (0, 0)) = R /\ ((m = 0 /\ takeE R ≠ 0) \/ ∃ j R', m <= j /\ j <= z.es.length /\ R = segW z.f (z.es.take j) ++ R' /\ takeE R' ≠ 0) := by
      refine ⟨_, rfl, ?_⟩
      rcases h with ⟨h0, h1⟩ | ⟨j, h1, h2, h3⟩
      . have e : z.file.all.take z.file.kept ++ tornL (z.file.all.drop z.file.kept) (us.headD (0, 0)) = tornL (segW z.f z.es) (us.headD (0, 0)) := by
          show z.w.take z.k ++ tornL (z.w.drop z.k) _ = _
          rw [h0]
          rfl
        rw [e]
        rcases torn_seg z.es z.f (us.headD (0, 0)) with hx | ⟨j, R, hx, hR⟩
        . exact .inl ⟨h1, hx⟩
        . rw [hx]
          exact .inr (hcut (by omega) hR)
      . obtain ⟨j', R, hx, hR⟩ := torn_lines (z.es.drop j) (z.f + (z.es.take j).length) (us.headD (0, 0))
        have hw : z.w = segW z.f (z.es.take j) ++ linesW (z.f + (z.es.take j).length) (z.es.drop j) := by
          rw [<- segW_app, List.take_append_drop]
          rfl
        have e : z.file.all.take z.file.kept ++ tornL (z.file.all.drop z.file.kept) (us.headD (0, 0)) = segW z.f (z.es.take (j + j')) ++ R := by
          show z.w.take z.k ++ tornL (z.w.drop z.k) _ = _
          rw [hw, h3, List.take_left' rfl, List.drop_left' rfl, hx, <- List.append_assoc, List.take_add, segW_app]
        rw [e]
        exact .inr (hcut (by omega) hR)
    obtain ⟨R, e, hR⟩ := hR
    rw [e]
    by_cases hn : R = []
    . rw [if_pos hn]
      subst hn
      rcases hR with ⟨h1, _⟩ | ⟨j, R', _, _, h3, _⟩
      . exact .inl ⟨h1, rfl⟩
      . exact absurd (List.append_eq_nil_iff.1 h3.symm).1 (segW_ne _ _)
    . rw [if_neg hn]
      exact .inr ⟨R, rfl, hR⟩
  . rw [if_neg hk, if_neg (show ¬ z.file.all = [] from segW_ne _ _)]
    have hk' : z.w.length <= z.k := by
      have : ¬ z.k < z.w.length := hk
      omega
    have hl : z.k = z.w.length := by
      rcases h with ⟨h0, _⟩ | ⟨j, h1, h2, h3⟩
      . have : 0 < z.w.length := List.length_pos_iff.2 (segW_ne _ _)
        omega
      . have := segW_take_le z.f z.es h1
        rw [List.take_length] at this
        have h4 : z.w.length = (segW z.f z.es).length := rfl
        omega
    refine .inr ⟨z.w, ?_, .inr ⟨z.es.length, [], ?_, Nat.le_refl _, ?_, by decide⟩⟩
    . show [(⟨nameW z.f, z.w, z.k⟩ : FileS)] = _
      rw [hl]
    . rcases h with ⟨_, h1⟩ | ⟨j, h1, h2, _⟩ <;> omega
    . rw [List.take_length, List.append_nil]
      rfl
theorem crash_log {D : DiskS} {L : WalS} {A : List Pc} {z : Pc} (h : WInv D L (A ++ [z])) (ts : List (Nat × Nat)) : ∃ M, logF (crashD D ts) = A.map Pc.file ++ M /\ Rest z.f z.es (L.safe - (esOf A).length) M := by
  have hc := (crashTo_crashL D.files ts).filter
  have hf : D.files.filter isW = A.map Pc.file ++ [z.file] := by
    have := h.fil
    rw [List.map_append] at this
    exact this
  rw [hf] at hc
  have hfull : ∀ p ∈ A, p.k = p.w.length /\ 1024 <= p.w.length /\ p.es ≠ [] := by have := h.full; rwa [List.dropLast_concat] at this
  obtain ⟨M, h1, us, M', h2, h3⟩ := CrashTo.full (fun f hf => by
    obtain ⟨p, hp, rfl⟩ := List.mem_map.1 hf
    exact ⟨(hfull p hp).1, segW_ne _ _⟩) hc
  have h3' : M' = [] := h3
  refine ⟨M, h1, ?_⟩
  rw [h2, h3', List.append_nil]
  refine crash_piece ?_ us
  obtain ⟨s1, s2⟩ := h.kept A z rfl
  rcases s2 with ⟨p0, p1, _⟩ | ⟨j, j1, j2, j3⟩
  . exact .inl ⟨p0, by omega⟩
  . exact .inr ⟨j, j1, by omega, j3⟩
theorem crash_none {D : DiskS} {L : WalS} (h : WInv D L []) (ts : List (Nat × Nat)) : logF (crashD D ts) = [] := by
  have hc := (crashTo_crashL D.files ts).filter
  have hf : D.files.filter isW = [] := h.fil
  rw [hf] at hc
  exact hc
theorem rising_crash : ∀ {L : List FileS} (ts : List (Nat × Nat)), Rising L -> Rising (crashL L ts)
  | [], _, _ => List.Pairwise.nil
  | f :: r, ts, h => by
    obtain ⟨h1, h2⟩ := List.pairwise_cons.1 h
    refine List.pairwise_append.2 ⟨?_, rising_crash _ h2, fun x hx y hy => ?_⟩
    . have := length_crash1 f ts
      match e : crash1 f ts, this with
      | [], _ => exact List.Pairwise.nil
      | [x], _ => exact List.pairwise_singleton _ _
      | _ :: _ :: _, hl => simp at hl
    . obtain ⟨g, hg, e⟩ := crashL_name hy
      rw [crash1_name hx, e]
      exact h1 g hg

def LB (b : Nat) (B : List Pc) : WalS := ⟨if B = [] then 0 else b, esOf B, B.map Pc.wf, 0⟩
def LO (b : Nat) (B : List Pc) : WalS := ⟨b, esOf B, B.map Pc.wf, (esOf B).length⟩
def PcOk (p : Pc) : Prop := 1 <= p.f /\ p.f <= H59 /\ (∀ e ∈ p.es, e.ok) /\ p.f + p.es.length <= H59 + 1
theorem PcOk.in60 {p : Pc} (h : PcOk p) : 1 <= p.f /\ p.f < 1152921504606846976 := by
  have := h.2.1
  unfold H59 at this
  exact ⟨h.1, by omega⟩
theorem PcOk.reads {p : Pc} (h : PcOk p) {R : List Nat} (hR : takeE R ≠ 0) : segR (p.w ++ R) = ⟨p.f, p.es, p.w.length⟩ := by
  have h1 := h.in60
  have h2 := h.2.2.2
  unfold H59 at h2
  exact segR_stop h1.1 (by omega) h.2.2.1 (by unfold M64; omega) hR
theorem seg_junk {R : List Nat} (h : takeE R ≠ 0) : segR R = ⟨0, [], 0⟩ := by
  unfold segR
  exact segF_stop h _
theorem LB_last (b : Nat) (B : List Pc) (h : B ≠ []) : (LB b B).last = b + (esOf B).length := by
  unfold WalS.last LB
  rw [if_neg h]
theorem take_piece {b : Nat} {B : List Pc} {a : Pc} (ha : PcOk a) (hf : a.f = b + 1 + (esOf B).length) {R : List Nat} (hR : takeE R ≠ 0) {last : Bool} (hl : last = true \/ R = []) :
    takeW (LB b B) a.f (a.w ++ R) last = (true, LB b (B ++ [a]), 0) := by
  unfold takeW
  rw [ha.reads hR]
  simp only
  rw [if_neg (by simp), if_neg ?_]
  . congr 1
    congr 1
    unfold LB
    have h1 : ¬ B ++ [a] = [] := by simp
    rw [if_neg h1, esOf_app, esOf_one, List.map_append]
    by_cases hB : B = []
    . subst hB
      simp only [List.map_nil, if_true]
      have : a.f - 1 = b := by
        have e : (esOf ([] : List Pc)).length = 0 := rfl
        omega
      rw [this]
      rfl
    . have hm : ¬ B.map Pc.wf = [] := fun e => hB (List.map_eq_nil_iff.1 e)
      simp only [if_neg hB, if_neg hm]
      rfl
  . rintro (h | ⟨h1, h2⟩ | ⟨h1, h2⟩)
    . exact h rfl
    . rcases hl with rfl | rfl
      . cases h1
      . rw [List.append_nil] at h2
        exact h2 rfl
    . have hB : B ≠ [] := by
        rintro rfl
        exact h1 rfl
      rw [LB_last b B hB] at h2
      omega
theorem take_junk {L : WalS} {f : Nat} (hf : 1 <= f) {R : List Nat} (hR : takeE R ≠ 0) : takeW L f R true = (false, L, 0) := by
  unfold takeW
  rw [seg_junk hR]
  rw [if_pos ⟨by show 0 ≠ f; omega, rfl⟩]
theorem fileE_of {D : DiskS} {n : ByteArray} {f : FileS} (hd : D.down = false) (hf : findFile n D.files = some f) : fileE D n = 0 := by
  rw [fileE_some hf, if_neg (by rw [hd]; decide)]
theorem load_full {D : DiskS} (hd : D.down = false) (b : Nat) : ∀ (A B : List Pc) (r : List ByteArray), Chain (b + 1) (B ++ A) -> (∀ a ∈ A, PcOk a /\ findFile (nameW a.f) D.files = some a.file) ->
    loadW (A.map (fun a => nameW a.f) ++ r) D (LB b B) = loadW r D (LB b (B ++ A))
  | [], B, r, _, _ => by rw [List.append_nil]; rfl
  | a :: A, B, r, hc, h => by
    obtain ⟨h1, h2⟩ := h a (List.mem_cons_self ..)
    have hfirst : a.f = b + 1 + (esOf B).length := (Chain.app.1 hc).2.1
    have ih := load_full hd b A (B ++ [a]) r (by rw [List.append_assoc]; exact hc) (fun x hx => h x (List.mem_cons_of_mem _ hx))
    rw [List.append_assoc] at ih
    show loadW (nameW a.f :: (A.map (fun a => nameW a.f) ++ r)) D (LB b B) = _
    conv => lhs; unfold loadW
    have ht : ∀ last, takeW (LB b B) (firstN (natsOf (nameW a.f))) (getF D (nameW a.f)).all last = (true, LB b (B ++ [a]), 0) := by
      intro last
      rw [first_nameW h1.in60.1 h1.in60.2, getF_some h2]
      have := take_piece h1 hfirst (R := []) (by decide) (last := last) (.inr rfl)
      rw [List.append_nil] at this
      exact this
    rw [if_neg (by rw [fileE_of hd h2]; decide), ht]
    exact ih
theorem raw_find {D : DiskS} {X Y : List FileS} {g : FileS} (hr : Rising D.files) (hf : logF D = X ++ g :: Y) (hn : firstN (natsOf g.name) ≠ 0) : findFile g.name D.files = some g := by
  rw [<- find_filter hn]
  show findFile g.name (logF D) = _
  have := rising_logF hr
  rw [hf] at this ⊢
  exact find_mid this
theorem raw_del {D : DiskS} {X Y : List FileS} {g : FileS} (hr : Rising D.files) (hf : logF D = X ++ g :: Y) : (delFile g.name D.files).filter isW = X ++ Y := by
  rw [filter_del]
  show delFile g.name (logF D) = _
  have := rising_logF hr
  rw [hf] at this ⊢
  exact del_mid this
theorem raw_put {D : DiskS} {X Y : List FileS} {g g' : FileS} (hr : Rising D.files) (hf : logF D = X ++ g :: Y) (hn : firstN (natsOf g.name) ≠ 0) (he : g'.name = g.name) : (putFile g' D.files).filter isW = X ++ g' :: Y := by
  rw [filter_put_yes (by unfold isW; rw [he]; exact decide_eq_true hn) hr]
  show putFile g' (logF D) = _
  have := rising_logF hr
  rw [hf] at this ⊢
  exact put_mid this he
theorem remove_calm {D : DiskS} (h : Calm D) {n : ByteArray} {f : FileS} (hf : findFile n D.files = some f) : (removeD D n).2 = 0 /\ Calm (removeD D n).1 /\ (removeD D n).1.files = delFile n D.files := by
  have hr : removeD D n = ({ stepD D with files := delFile n D.files }, 0) := by
    unfold removeD
    rw [hf]
    simp only
    rw [if_neg (by rw [h.1]; decide), if_neg (by rw [h.2]; decide)]
  rw [hr]
  exact ⟨rfl, h.step _, rfl⟩
theorem sync_calmF {D : DiskS} (h : Calm D) {n : ByteArray} {f : FileS} (hf : findFile n D.files = some f) : (syncD D n).2 = 0 /\ Calm (syncD D n).1 /\ (syncD D n).1.files = putFile { f with kept := f.all.length } D.files := by
  have hr : syncD D n = ({ stepD D with files := putFile { f with kept := f.all.length } D.files }, 0) := by
    unfold syncD
    rw [hf]
    simp only
    rw [if_neg (by rw [h.1]; decide), if_neg (by rw [h.2]; decide)]
  rw [hr]
  exact ⟨rfl, h.step _, rfl⟩
theorem cut_calmF {D : DiskS} (h : Calm D) {n : ByteArray} {f : FileS} (hf : findFile n D.files = some f) {k : Nat} (hk : k <= f.all.length) : (cutD D n k).2 = 0 /\ Calm (cutD D n k).1 /\ (cutD D n k).1.files = putFile ⟨f.name, f.all.take k, min f.kept k⟩ D.files := by
  have hr : cutD D n k = ({ stepD D with files := putFile ⟨f.name, f.all.take k, min f.kept k⟩ D.files }, 0) := by
    unfold cutD
    rw [hf]
    simp only
    rw [if_neg (by rw [h.1]; decide), if_neg (by omega), if_neg (by rw [h.2]; decide), Int.toNat_natCast]
  rw [hr]
  exact ⟨rfl, h.step _, rfl⟩
theorem settle_law {D : DiskS} (hc : Calm D) (hr : Rising D.files) {X : List FileS} {z : Pc} (hz : PcOk z) {R : List Nat} {k : Nat} (hf : logF D = X ++ [⟨nameW z.f, z.w ++ R, k⟩]) {L : WalS} (hL : L.fs.getLast? = some z.wf) :
    (settleW D L).2 = 0 /\ Calm (settleW D L).1 /\ Rising (settleW D L).1.files /\ logF (settleW D L).1 = X ++ [⟨nameW z.f, z.w, z.w.length⟩] := by
  have hn : firstN (natsOf (nameW z.f)) ≠ 0 := isW_name hz.in60
  have hfd := raw_find hr hf hn
  have hsync : ∀ {D' : DiskS} {k' : Nat}, Calm D' -> Rising D'.files -> logF D' = X ++ [⟨nameW z.f, z.w, k'⟩] ->
      (syncD D' (nameW z.f)).2 = 0 /\ Calm (syncD D' (nameW z.f)).1 /\ Rising (syncD D' (nameW z.f)).1.files /\ logF (syncD D' (nameW z.f)).1 = X ++ [⟨nameW z.f, z.w, z.w.length⟩] := by
    intro D' k' c1 c2 c3
    obtain ⟨s1, s2, s3⟩ := sync_calmF c1 (raw_find c2 c3 hn)
    refine ⟨s1, s2, ?_, ?_⟩
    . rw [s3]
      exact c2.put _
    . unfold logF
      rw [s3]
      exact raw_put c2 c3 hn rfl
  unfold settleW
  rw [hL]
  simp only
  have hwf : z.wf.f = z.f := rfl
  rw [hwf, if_neg (by rw [fileE_of hc.1 hfd]; decide), getF_some hfd]
  have hlen : (z.w ++ R).length = z.w.length + R.length := List.length_append
  by_cases hs : z.wf.s < (z.w ++ R).length
  . rw [if_pos hs]
    obtain ⟨c1, c2, c3⟩ := cut_calmF hc hfd (k := z.w.length) (by show z.w.length <= (z.w ++ R).length; omega)
    have hs2 : z.wf.s = z.w.length := rfl
    rw [hs2, if_neg (by rw [c1]; decide)]
    refine hsync (k' := min k z.w.length) c2 (by rw [c3]; exact hr.put _) ?_
    unfold logF
    rw [c3]
    have := raw_put (g' := ⟨nameW z.f, (z.w ++ R).take z.w.length, min k z.w.length⟩) hr hf hn rfl
    rw [List.take_left' rfl] at this
    show (putFile ⟨nameW z.f, (z.w ++ R).take z.w.length, min k z.w.length⟩ D.files).filter isW = _
    rw [List.take_left' rfl]
    exact this
  . rw [if_neg hs]
    have hR : R = [] := by
      have : ¬ z.w.length < (z.w ++ R).length := hs
      exact List.length_eq_zero_iff.1 (by omega)
    subst hR
    rw [List.append_nil] at hf
    exact hsync hc hr hf
theorem close_law (D : DiskS) {b : Nat} (hb : b < H59) (P : List Pc) : closeW D (LB b P) b = (D, some (LO b P), 0) := by
  unfold closeW
  by_cases hP : P = []
  . subst hP
    have h1 : (LB b []).fs = [] := rfl
    have hr : resetW D (LB b []) b = (D, ⟨b, [], [], 0⟩, 0) := by
      unfold resetW
      rw [if_neg (by omega)]
      rfl
    simp only [h1, true_or, if_true, hr]
    rw [if_neg (by decide), if_neg (by omega)]
    rfl
  . have h1 : ¬ (LB b P).fs = [] := fun e => hP (List.map_eq_nil_iff.1 e)
    have h2 : ¬ (LB b P).last < b := by
      rw [LB_last b P hP]
      omega
    have h3 : (LB b P).b = b := if_neg hP
    have h4 : ¬ ((LB b P).fs = [] \/ (LB b P).last < b) := fun h => h.elim h1 h2
    simp only [if_neg h4]
    rw [if_neg (by decide), h3, if_neg (by omega)]
    unfold LO LB
    rw [if_neg hP]
theorem winv_full {D : DiskS} {b : Nat} {P : List Pc} (hb : b < H59) (hf : logF D = P.map Pc.file) (hch : Chain (b + 1) P) (hok : ∀ p ∈ P, PcOk p) (hk : ∀ p ∈ P, p.k = p.w.length) (hfull : ∀ p ∈ P.dropLast, 1024 <= p.w.length /\ p.es ≠ []) (hhi : b + (esOf P).length <= H59) :
    WInv D (LO b P) P := by
  refine ⟨hf, rfl, rfl, hch, ?_, hhi, ?_, Nat.le_refl _, ?_, hb, fun p hp => (hok p hp).2.1⟩
  . intro e he
    obtain ⟨p, hp, h⟩ := List.mem_flatMap.1 he
    exact (hok p hp).2.2.1 e h
  . intro p hp
    exact ⟨hk p ((List.dropLast_sublist P).subset hp), hfull p hp⟩
  . intro A z e
    subst e
    show (esOf A).length <= (esOf (A ++ [z])).length /\ _
    rw [esOf_app, esOf_one, List.length_append]
    refine ⟨by omega, .inr ⟨z.es.length, Nat.le_refl _, ?_, ?_⟩⟩
    . show (esOf (A ++ [z])).length <= _
      rw [esOf_app, esOf_one, List.length_append]
      exact Nat.le_refl _
    . rw [List.take_length, hk z (List.mem_append_right _ (List.mem_singleton_self z))]
      rfl
def Opened (D : DiskS) (b : Nat) (es : List EntS) (m n : Nat) : Prop :=
  ∃ D2 L2 P2, openW D b = (D2, some L2, 0) /\ Calm D2 /\ Rising D2.files /\ WInv D2 L2 P2 /\ L2.b = b /\ L2.safe = L2.es.length /\ ∃ j, m <= j /\ j <= n /\ L2.es = es.take j
theorem openW_calm {D : DiskS} (hc : Calm D) {b : Nat} (hb : b < H59) {D1 : DiskS} {L1 : WalS} (hl : loadW (namesW D) D (LB b []) = (D1, L1, 0)) : openW D b = openE D1 L1 b := by
  have hl' : loadW (namesW D) D ⟨0, [], [], 0⟩ = (D1, L1, 0) := hl
  unfold openW
  rw [if_neg (by rw [hc.1]; decide), if_neg (by omega), hl', if_neg (fun h => h rfl)]
theorem open_law {D : DiskS} (hc : Calm D) (hr : Rising D.files) {b : Nat} (hb : b < H59) {A : List Pc} {z : Pc} {m : Nat} {M : List FileS}
    (hlog : logF D = A.map Pc.file ++ M) (hM : Rest z.f z.es m M) (hch : Chain (b + 1) (A ++ [z])) (hok : ∀ p ∈ A ++ [z], PcOk p) (hfull : ∀ p ∈ A, p.k = p.w.length /\ 1024 <= p.w.length /\ p.es ≠ []) (hhi : b + (esOf (A ++ [z])).length <= H59) :
    Opened D b (esOf (A ++ [z])) ((esOf A).length + m) (esOf (A ++ [z])).length := by
  have hokA : ∀ p ∈ A, PcOk p := fun p hp => hok p (List.mem_append_left _ hp)
  have hokz : PcOk z := hok z (List.mem_append_right _ (List.mem_singleton_self z))
  have hchA := (Chain.app.1 hch).1
  have hzf : z.f = b + 1 + (esOf A).length := (Chain.app.1 hch).2.1
  have hel : (esOf (A ++ [z])).length = (esOf A).length + z.es.length := by rw [esOf_app, esOf_one, List.length_append]
  have hfind : ∀ {D' : DiskS} {Y : List FileS}, Rising D'.files -> logF D' = A.map Pc.file ++ Y -> ∀ a ∈ A, PcOk a /\ findFile (nameW a.f) D'.files = some a.file := by
    intro D' Y r1 r2 a ha
    obtain ⟨A1, A2, rfl⟩ := List.append_of_mem ha
    refine ⟨hokA a ha, ?_⟩
    rw [List.map_append, List.map_cons, List.append_assoc, List.cons_append] at r2
    exact raw_find (g := a.file) r1 r2 (isW_name (hokA a ha).in60)
  have hnames : namesW D = A.map (fun a => nameW a.f) ++ M.map (·.name) := by
    unfold namesW
    rw [hlog, List.map_append, List.map_map]
    rfl
  have hload : loadW (namesW D) D (LB b []) = loadW (M.map (·.name)) D (LB b A) := by
    rw [hnames]
    exact load_full hc.1 b A [] _ hchA (hfind hr hlog)
  have hall : ∀ {D' : DiskS}, Calm D' -> Rising D'.files -> logF D' = A.map Pc.file -> m = 0 -> openW D b = openE D' (LB b A) b -> Opened D b (esOf (A ++ [z])) ((esOf A).length + m) (esOf (A ++ [z])).length := by
    intro D' c1 c2 c3 hm he
    have htake : (esOf (A ++ [z])).take (esOf A).length = esOf A := by
      rw [esOf_app]
      exact List.take_left' rfl
    have hw : ∀ {D2 : DiskS}, logF D2 = A.map Pc.file -> WInv D2 (LO b A) A := fun hf =>
      winv_full hb hf hchA hokA (fun p hp => (hfull p hp).1) (fun p hp => (hfull p ((List.dropLast_sublist A).subset hp)).2) (by omega)
    have hend : ∀ {D2 : DiskS}, Calm D2 -> Rising D2.files -> logF D2 = A.map Pc.file -> openW D b = (D2, some (LO b A), 0) -> Opened D b (esOf (A ++ [z])) ((esOf A).length + m) (esOf (A ++ [z])).length := fun d1 d2 d3 d4 =>
      ⟨_, LO b A, A, d4, d1, d2, hw d3, rfl, rfl, (esOf A).length, by omega, by omega, htake.symm⟩
    by_cases hA : A = []
    . subst hA
      have hs : settleW D' (LB b []) = (D', 0) := rfl
      refine hend c1 c2 c3 ?_
      rw [he]
      unfold openE
      rw [hs, if_neg (fun h => h rfl)]
      exact close_law D' hb []
    . obtain ⟨A', y, rfl⟩ := split_last hA
      have hy := hfull y (List.mem_append_right _ (List.mem_singleton_self y))
      have hL : (LB b (A' ++ [y])).fs.getLast? = some y.wf := by
        show ((A' ++ [y]).map Pc.wf).getLast? = _
        rw [List.map_append]
        simp
      have c3' : logF D' = A'.map Pc.file ++ [⟨nameW y.f, y.w ++ [], y.k⟩] := by
        rw [c3, List.map_append, List.append_nil]
        rfl
      obtain ⟨s1, s2, s3, s4⟩ := settle_law c1 c2 (hokA y (List.mem_append_right _ (List.mem_singleton_self y))) c3' hL
      refine hend s2 s3 ?_ ?_
      . rw [s4, List.map_append]
        show _ = A'.map Pc.file ++ [(⟨nameW y.f, y.w, y.k⟩ : FileS)]
        rw [hy.1]
      . rw [he]
        unfold openE
        rw [if_neg (by rw [s1]; decide)]
        exact close_law _ hb _
  rcases hM with ⟨h1, rfl⟩ | ⟨R, rfl, h⟩
  . refine hall hc hr (by rw [hlog, List.append_nil]) h1 (openW_calm hc hb ?_)
    rw [hload]
    rfl
  . have hn : firstN (natsOf (nameW z.f)) = z.f := first_nameW hokz.in60.1 hokz.in60.2
    have hfd := raw_find (g := ⟨nameW z.f, R, R.length⟩) hr hlog (isW_name hokz.in60)
    rcases h with ⟨h1, h2⟩ | ⟨j, R', j1, j2, rfl, h2⟩
    . -- no piece: it goes
      obtain ⟨r1, r2, r3⟩ := remove_calm hc hfd
      have hrm : loadW [nameW z.f] D (LB b A) = ((removeD D (nameW z.f)).1, LB b A, 0) := by
        unfold loadW
        rw [if_neg (by rw [fileE_of hc.1 hfd]; decide), hn, getF_some hfd]
        have ht := take_junk (L := LB b A) hokz.1 h2
        rw [show (decide (([] : List ByteArray) = [])) = true from rfl, ht, if_pos rfl]
        rw [if_neg (by rw [r1]; decide)]
        rfl
      refine hall (D' := (removeD D (nameW z.f)).1) r2 (by rw [r3]; exact hr.del _) ?_ h1 (openW_calm hc hb (by rw [hload]; exact hrm))
      unfold logF
      rw [r3]
      have := raw_del hr hlog
      rwa [List.append_nil] at this
    . -- the piece, with the first entries
      have hz' : PcOk ⟨z.f, z.es.take j, (segW z.f (z.es.take j)).length⟩ := by
        refine ⟨hokz.1, hokz.2.1, fun e he => hokz.2.2.1 e (List.mem_of_mem_take he), ?_⟩
        have := hokz.2.2.2
        show z.f + (z.es.take j).length <= H59 + 1
        rw [List.length_take]
        omega
      generalize hzz : (⟨z.f, z.es.take j, (segW z.f (z.es.take j)).length⟩ : Pc) = z' at hz'
      have ef : z'.f = z.f := by rw [<- hzz]
      have ees : z'.es = z.es.take j := by rw [<- hzz]
      have ew : z'.w = segW z.f (z.es.take j) := by rw [<- hzz]; rfl
      have ek : z'.k = z'.w.length := by rw [ew, <- hzz]
      rw [<- ew] at hfd hlog hload
      rw [<- ef] at hfd hlog hload
      have hrm : loadW [nameW z'.f] D (LB b A) = (D, LB b (A ++ [z']), 0) := by
        unfold loadW
        rw [if_neg (by rw [fileE_of hc.1 hfd]; decide), first_nameW hz'.in60.1 hz'.in60.2, getF_some hfd]
        have ht := take_piece (b := b) (B := A) hz' (by rw [ef, hzf]) h2 (last := true) (.inl rfl)
        rw [show (decide (([] : List ByteArray) = [])) = true from rfl]
        show (if (takeW (LB b A) z'.f (z'.w ++ R') true).1 = false then _ else _) = _
        rw [ht, if_neg (fun h => by cases h), if_neg (fun h => h rfl)]
        rfl
      have hL : (LB b (A ++ [z'])).fs.getLast? = some z'.wf := by
        show ((A ++ [z']).map Pc.wf).getLast? = _
        rw [List.map_append]
        simp
      obtain ⟨s1, s2, s3, s4⟩ := settle_law hc hr hz' hlog hL
      have he : openW D b = ((settleW D (LB b (A ++ [z']))).1, some (LO b (A ++ [z'])), 0) := by
        rw [openW_calm hc hb (by rw [hload]; exact hrm)]
        unfold openE
        rw [if_neg (by rw [s1]; decide)]
        exact close_law _ hb _
      have hes : esOf (A ++ [z']) = (esOf (A ++ [z])).take ((esOf A).length + j) := by
        rw [esOf_app, esOf_app, esOf_one, esOf_one, ees, List.take_length_add_append]
      refine ⟨_, LO b (A ++ [z']), A ++ [z'], he, s2, s3, winv_full hb ?_ ?_ ?_ ?_ ?_ ?_, rfl, rfl, (esOf A).length + j, by omega, by omega, hes⟩
      . rw [s4, List.map_append]
        show _ = A.map Pc.file ++ [(⟨nameW z'.f, z'.w, z'.k⟩ : FileS)]
        rw [ek]
      . exact Chain.app.2 ⟨hchA, by rw [ef]; exact hzf, trivial⟩
      . intro p hp
        rcases List.mem_append.1 hp with hp | hp
        . exact hokA p hp
        . obtain rfl := List.mem_singleton.1 hp
          exact hz'
      . intro p hp
        rcases List.mem_append.1 hp with hp | hp
        . exact (hfull p hp).1
        . obtain rfl := List.mem_singleton.1 hp
          exact ek
      . rw [List.dropLast_concat]
        intro p hp
        exact (hfull p hp).2
      . rw [hes, List.length_take]
        omega

theorem calm_boot (D : DiskS) (ts : List (Nat × Nat)) : Calm (bootD (crashD D ts)) := ⟨rfl, rfl⟩
theorem rising_boot {D : DiskS} (h : Rising D.files) (ts : List (Nat × Nat)) : Rising (bootD (crashD D ts)).files := rising_crash ts h
theorem pcOk_of {D : DiskS} {L : WalS} {P : List Pc} (h : WInv D L P) {p : Pc} (hp : p ∈ P) : PcOk p := by
  obtain ⟨h1, _, _, h4⟩ := h.range p hp
  refine ⟨h1, h.lo.2 p hp, fun e he => h.ok e ?_, ?_⟩
  . rw [h.es]
    exact List.mem_flatMap.2 ⟨p, hp, he⟩
  . have := h.hi
    unfold WalS.last at h4
    omega
theorem open_none {D : DiskS} (hc : Calm D) {b : Nat} (hb : b < H59) (hl : logF D = []) : openW D b = (D, some (LO b []), 0) /\ WInv D (LO b []) [] := by
  refine ⟨?_, winv_full hb hl trivial (fun p hp => by cases hp) (fun p hp => by cases hp) (fun p hp => by cases hp) (by show b + 0 <= H59; omega)⟩
  have hn : namesW D = [] := by
    unfold namesW
    rw [hl]
    rfl
  rw [openW_calm hc hb (D1 := D) (L1 := LB b []) (by rw [hn]; rfl)]
  unfold openE
  have hs : settleW D (LB b []) = (D, 0) := rfl
  rw [hs, if_neg (fun h => h rfl)]
  exact close_law D hb []
theorem keeps_law {D : DiskS} {L : WalS} {P : List Pc} (h : WInv D L P) (hr : Rising D.files) (ts : List (Nat × Nat)) : Opened (bootD (crashD D ts)) L.b L.es L.safe L.es.length := by
  have hc := calm_boot D ts
  have hr2 := rising_boot hr ts
  by_cases hP : P = []
  . subst hP
    have hl : logF (bootD (crashD D ts)) = [] := crash_none h ts
    obtain ⟨h1, h2⟩ := open_none hc h.lo.1 hl
    have he : L.es = [] := h.es
    have hs : L.safe = 0 := by
      have := h.safe
      rw [he] at this
      exact Nat.le_zero.1 this
    exact ⟨_, _, _, h1, hc, hr2, h2, rfl, rfl, 0, by omega, Nat.zero_le _, rfl⟩
  . obtain ⟨A, z, rfl⟩ := split_last hP
    obtain ⟨M, h1, h2⟩ := crash_log h ts
    have h1' : logF (bootD (crashD D ts)) = A.map Pc.file ++ M := h1
    have hfull : ∀ p ∈ A, p.k = p.w.length /\ 1024 <= p.w.length /\ p.es ≠ [] := by have := h.full; rwa [List.dropLast_concat] at this
    have hsafe := h.safeAt
    have hhi := h.hi
    rw [h.es] at hhi
    have ho := open_law hc hr2 h.lo.1 h1' h2 h.ch (fun p hp => pcOk_of h hp) hfull hhi
    rw [<- h.es] at ho
    rwa [show (esOf A).length + (L.safe - (esOf A).length) = L.safe by omega] at ho
theorem keeps_dn {r : DiskS × WalS × Nat} {ms : List EntS} (h : OpDn ms r) (hr : Rising r.1.files) (ts : List (Nat × Nat)) :
    ∃ D2 L2 P2, openW (bootD (crashD r.1 ts)) r.2.1.b = (D2, some L2, 0) /\ Calm D2 /\ Rising D2.files /\ WInv D2 L2 P2 /\ L2.b = r.2.1.b /\ L2.safe = L2.es.length /\ ∃ j, r.2.1.safe <= j /\ j <= (r.2.1.es ++ ms).length /\ L2.es = (r.2.1.es ++ ms).take j := by
  obtain ⟨_, _, L, P, h1, h2, h3, h4⟩ := h
  obtain ⟨D2, L2, P2, g1, g2, g3, g4, g5, g6, j, g7, g8, g9⟩ := keeps_law h1 hr ts
  rw [h2] at g1 g5
  rw [h3] at g7
  refine ⟨D2, L2, P2, g1, g2, g3, g4, g5, g6, j, g7, ?_, ?_⟩
  . rcases h4 with h4 | h4 <;> rw [h4] at g8
    . rw [List.length_append]; omega
    . exact g8
  . rcases h4 with h4 | h4 <;> rw [h4] at g8 g9
    . rw [g9, List.take_append_of_le_length g8]
    . exact g9
theorem nameW_kind (n : Nat) : firstN (natsOf (nameW n)) ≠ 0 \/ (nameW n).size = 0 := by
  by_cases h : n < 1 \/ 1152921504606846976 <= n
  . right
    unfold nameW nameB
    rw [if_pos h]
    rfl
  . left
    exact isW_name (by omega)
inductive StepW : DiskS -> DiskS -> Prop
  | remove (D : DiskS) (n : ByteArray) : StepW D (removeD D n).1
  | sync (D : DiskS) (n : ByteArray) : StepW D (syncD D n).1
  | cut (D : DiskS) (n : ByteArray) (k : Nat) : StepW D (cutD D n k).1
  | append (D : DiskS) (n : ByteArray) (b : List Nat) (h : firstN (natsOf n) ≠ 0 \/ n.size = 0) : StepW D (appendD D n b).1
inductive Reach : Nat -> DiskS -> DiskS -> Prop
  | refl (n : Nat) (D : DiskS) : Reach n D D
  | step {n : Nat} {D D1 D2 : DiskS} (h : StepW D D1) (g : Reach n D1 D2) : Reach (n + 1) D D2
theorem Reach.mono {n m : Nat} {D D' : DiskS} (h : Reach n D D') (hm : n <= m) : Reach m D D' := by
  induction h generalizing m with
  | refl => exact .refl _ _
  | step h _ ih =>
    obtain ⟨k, rfl⟩ : ∃ k, m = k + 1 := ⟨m - 1, by omega⟩
    exact .step h (ih (by omega))
theorem Reach.trans {n m : Nat} {D D1 D2 : DiskS} (h : Reach n D D1) (g : Reach m D1 D2) : Reach (n + m) D D2 := by
  induction h with
  | refl => exact g.mono (by omega)
  | @step k _ _ _ h _ ih =>
    rw [show k + 1 + m = k + m + 1 by omega]
    exact .step h (ih g)
theorem Reach.one {D D1 : DiskS} (h : StepW D D1) : Reach 1 D D1 := .step h (.refl _ _)
theorem reach_pop (D : DiskS) (L : WalS) : Reach 1 D (popW D L).1 := by
  unfold popW
  split
  . exact .refl _ _
  . split
    . exact .one (.remove _ _)
    . exact .one (.remove _ _)
theorem reach_reset (base : Nat) : ∀ (n : Nat) (D : DiskS) (L : WalS), Reach n D (resetF base n D L).1
  | 0, D, L => .refl _ _
  | n + 1, D, L => by
    unfold resetF
    split
    . exact .refl _ _
    . split
      . exact (reach_pop D L).mono (by omega)
      . have := (reach_pop D L).trans (reach_reset base n (popW D L).1 (popW D L).2.1)
        rwa [Nat.add_comm] at this
theorem reach_resetW (D : DiskS) (L : WalS) (base : Nat) : Reach L.fs.length D (resetW D L base).1 := by
  unfold resetW
  split
  . exact .refl _ _
  . exact reach_reset _ _ _ _
theorem reach_sync (D : DiskS) (L : WalS) : Reach 1 D (syncW D L).1 := by
  unfold syncW
  split
  . exact .refl _ _
  . split
    . exact .refl _ _
    . split
      . exact .one (.sync _ _)
      . exact .one (.sync _ _)
theorem reach_append (D : DiskS) (L : WalS) (ms : List EntS) : Reach 2 D (appendW D L ms).1 := by
  have hnew : Reach 2 D (newW D L ms).1 := by
    unfold newW
    split
    . exact (reach_sync D L).mono (by omega)
    . split
      . exact (reach_sync D L).trans (.one (.append _ _ _ (nameW_kind _)))
      . exact (reach_sync D L).trans (.one (.append _ _ _ (nameW_kind _)))
  unfold appendW
  split
  . exact .refl _ _
  . split
    . exact .refl _ _
    . split
      . exact .refl _ _
      . split
        . exact hnew
        . split
          . unfold addW
            split
            . exact (Reach.one (.append _ _ _ (nameW_kind _))).mono (by omega)
            . exact (Reach.one (.append _ _ _ (nameW_kind _))).mono (by omega)
          . exact hnew

theorem DGood.stepW {D D' : DiskS} (h : DGood D) (hs : StepW D D') (hn : D.steps + 1 <= 1000000000) : DGood D' /\ D'.steps <= D.steps + 1 := by
  cases hs with
  | remove n => exact h.remove n hn
  | sync n => exact h.sync n hn
  | cut n k => exact h.cut n k hn
  | append n b _ => exact h.append n b hn
theorem Reach.good {n : Nat} {D D' : DiskS} (hr : Reach n D D') (h : DGood D) (hn : D.steps + n <= 1000000000) : DGood D' /\ D'.steps <= D.steps + n := by
  induction hr with
  | refl => exact ⟨h, by omega⟩
  | step hs _ ih =>
    obtain ⟨h1, h2⟩ := h.stepW hs (by omega)
    obtain ⟨h3, h4⟩ := ih h1 (by omega)
    exact ⟨h3, by omega⟩
theorem StepW.rising {D D' : DiskS} (hs : StepW D D') (h : Rising D.files) : Rising D'.files := by
  cases hs with
  | remove n =>
    unfold removeD
    split
    . split
      . exact h
      . split
        . rw [show (stepD D, 50).1.files = D.files from stepD_files D]; exact h
        . exact h.del n
    . exact h
  | sync n =>
    unfold syncD
    split
    . rename_i f _
      split
      . exact h
      . split
        . rw [show (stepD D, 50).1.files = D.files from stepD_files D]; exact h
        . exact h.put { f with kept := f.all.length }
    . exact h
  | cut n k =>
    unfold cutD
    split
    . rename_i f _
      split
      . exact h
      . split
        . exact h
        . split
          . rw [show (stepD D, 50).1.files = D.files from stepD_files D]; exact h
          . exact h.put ⟨f.name, f.all.take (k : Int).toNat, min f.kept (k : Int).toNat⟩
    . exact h
  | append n b _ =>
    unfold appendD
    split
    . exact h
    . rw [show (stepD (appD D n b), stepE D).1.files = (appD D n b).files from stepD_files _]
      exact h.put { getF D n with all := (getF D n).all ++ b }
theorem Reach.rising {n : Nat} {D D' : DiskS} (hr : Reach n D D') (h : Rising D.files) : Rising D'.files := by
  induction hr with
  | refl => exact h
  | step hs _ ih => exact ih (hs.rising h)
theorem WInv.few {D : DiskS} {L : WalS} {P : List Pc} (h : WInv D L P) (hg : DGood D) : L.fs.length <= 128 := by
  have h1 : L.fs.length = (logF D).length := by rw [h.fs, h.fil, List.length_map, List.length_map]
  have h2 : (logF D).length <= D.files.length := List.length_filter_le ..
  have h3 := hg.few
  omega

theorem take_fs (L : WalS) (f : Nat) (b : List Nat) (last : Bool) : (takeW L f b last).2.1.fs.length <= L.fs.length + 1 := by
  unfold takeW
  split
  . exact Nat.le_succ _
  . split
    . exact Nat.le_succ _
    . show (L.fs ++ [_]).length <= _
      rw [List.length_append]
      exact Nat.le_refl _
theorem reach_load : ∀ (ns : List ByteArray) (D : DiskS) (L : WalS), Reach ns.length D (loadW ns D L).1 /\ (loadW ns D L).2.1.fs.length <= L.fs.length + ns.length
  | [], D, L => ⟨.refl _ _, Nat.le_refl _⟩
  | n :: r, D, L => by
    have ht := take_fs L (firstN (natsOf n)) (getF D n).all (decide (r = []))
    unfold loadW
    split
    . exact ⟨.refl _ _, Nat.le_add_right _ _⟩
    . split
      . split
        . refine ⟨(Reach.one (.remove _ _)).mono (by simp), ?_⟩
          show (takeW L _ _ _).2.1.fs.length <= _
          rw [List.length_cons]
          omega
        . obtain ⟨h1, h2⟩ := reach_load r (removeD D n).1 (takeW L (firstN (natsOf n)) (getF D n).all (decide (r = []))).2.1
          refine ⟨.step (.remove _ _) h1, ?_⟩
          rw [List.length_cons]
          omega
      . split
        . refine ⟨.refl _ _, ?_⟩
          show (takeW L _ _ _).2.1.fs.length <= _
          rw [List.length_cons]
          omega
        . obtain ⟨h1, h2⟩ := reach_load r D (takeW L (firstN (natsOf n)) (getF D n).all (decide (r = []))).2.1
          refine ⟨h1.mono (by simp), ?_⟩
          rw [List.length_cons]
          omega
theorem reach_settle (D : DiskS) (L : WalS) : Reach 2 D (settleW D L).1 := by
  unfold settleW
  split
  . exact .refl _ _
  . split
    . exact .refl _ _
    . split
      . split
        . exact (Reach.one (.cut _ _ _)).mono (by omega)
        . exact (Reach.one (.cut _ _ _)).trans (.one (.sync _ _))
      . exact (Reach.one (.sync _ _)).mono (by omega)
theorem reach_close (D : DiskS) (L : WalS) (base : Nat) : Reach L.fs.length D (closeW D L base).1 := by
  have h : Reach L.fs.length D (if L.fs = [] \/ L.last < base then resetW D L base else (D, L, 0)).1 := by
    split
    . exact reach_resetW D L base
    . exact .refl _ _
  unfold closeW
  simp only
  generalize (if L.fs = [] \/ L.last < base then resetW D L base else (D, L, 0)) = r at h ⊢
  split
  . exact h
  . split
    . exact h
    . exact h
theorem reach_open (D : DiskS) (base : Nat) : Reach (2 * (namesW D).length + 2) D (openW D base).1 := by
  obtain ⟨h1, h2⟩ := reach_load (namesW D) D ⟨0, [], [], 0⟩
  have h3 : (loadW (namesW D) D ⟨0, [], [], 0⟩).2.1.fs.length <= (namesW D).length := by
    have : ((⟨0, [], [], 0⟩ : WalS)).fs.length = 0 := rfl
    omega
  unfold openW
  split
  . exact .refl _ _
  . split
    . exact .refl _ _
    . split
      . exact h1.mono (by omega)
      . unfold openE
        split
        . exact (h1.trans (reach_settle _ _)).mono (by omega)
        . exact ((h1.trans (reach_settle _ _)).trans (reach_close _ _ _)).mono (by omega)
theorem names_few {D : DiskS} (h : DGood D) : (namesW D).length <= 128 := by
  have h1 : (namesW D).length = (logF D).length := List.length_map ..
  have h2 : (logF D).length <= D.files.length := List.length_filter_le ..
  have h3 := h.few
  omega

def xE : EntS := ⟨1, 1, []⟩
def dX : DiskS := ⟨1000, [], false, -1, 0⟩
def lX : WalS := ⟨0, [], [], 0⟩
set_option maxRecDepth 100000 in
theorem x_open : openW dX 0 = (dX, some lX, 0) := by kernel_rfl
theorem x_good : DGood dX := ⟨⟨by decide, by decide, by decide, by decide, by decide, by decide, by decide, fun f h => by cases h⟩, by decide, by decide⟩
theorem x_inv : WInv dX lX [] := (open_none (D := dX) (b := 0) ⟨rfl, rfl⟩ (by decide) rfl).2
theorem x_rise : Rising dX.files := List.Pairwise.nil
end Go.Proofs.YtjdglpcnkiioeaaGreat
namespace Go.Proofs.YtjdglpcnkiioeaaGreat
open Go.RowKit Go.Maps Go.Proofs.Own

def intoD (D : DiskS) (m n : ByteArray) (b : List Nat) : DiskS × Nat :=
  if (vgoneD D m).2 ≠ 0 then vgoneD D m else if (wrTo (vgoneD D m).1 m b).2 ≠ 0 then wrTo (vgoneD D m).1 m b else moveD (wrTo (vgoneD D m).1 m b).1 m n
theorem save4_into (D : DiskS) (b : List Nat) : save4 D b = intoD D nOther nSnap b := by
  show save4 D b = if (goneD D).2 ≠ 0 then goneD D else if (wrTo (goneD D).1 nOther b).2 ≠ 0 then wrTo (goneD D).1 nOther b else moveD (wrTo (goneD D).1 nOther b).1 nOther nSnap
  unfold save4 wrTo
  by_cases h1 : (goneD D).2 = 0
  . rw [if_neg (not_not_intro h1), if_neg (not_not_intro h1)]
    by_cases h2 : (appendD (goneD D).1 nOther b).2 = 0
    . simp only [h2, ne_eq, not_true_eq_false, if_false]
    . simp only [h2, ne_eq, not_false_eq_true, if_true]
  . rw [if_pos h1, if_pos h1]

def sopenE (D : DiskS) : Nat := if (goneD D).2 ≠ 0 then (goneD D).2 else if findFile nSnap (goneD D).1.files = none then 0 else if readB 7 (getF (goneD D).1 nSnap).all = true then 0 else 20
def sopenS (D : DiskS) : SnapS := if findFile nSnap (goneD D).1.files = none then zeroS else readS 7 (getF (goneD D).1 nSnap).all

theorem gone_up {D : DiskS} (hg : (goneD D).2 = 0) : (goneD D).1.down = false := by
  cases hd : D.down with
  | false => exact (fell_gone hd nOther).up hg
  | true =>
    exfalso
    unfold goneD removeD at hg
    split at hg
    . rw [if_pos hd] at hg; simp at hg
    . simp only [fileE, if_pos hd] at hg; simp at hg

end Go.Proofs.YtjdglpcnkiioeaaGreat
namespace Go.Proofs.YtjdglpcnkiioeaaGreat
open Go.Lib (hid)
open Go.RowKit Go.Maps Go.Proofs.Own

set_option maxHeartbeats 1600000 in
set_option maxRecDepth 20000 in
theorem sget_0 (sb db mb tb : Nat) (s : SnapS) (w : World) (h : StoreIs w sb db mb tb s) (hi : s.i = 0) :
    Calls Tryz.prog 101 #[.pointer (some ⟨sb, 0, none⟩)] w fun e w' => e = .returned (.tuple #[.agg #[.int .u64 0, .int .u64 0, .slice none 0 0, .slice none 0 0], .bool false]) /\ Below w.heap.size w w' := by
  have H := hid h
  obtain ⟨mv, dv, h1, _, _, _⟩ := h
  rw [hi] at h1
  have HS := hid h1
  have hsl := h1.lt
  clear h1
  go_enter Tryz.func101, Tryz.ntmps101
  go_wp2_with fail
  have R1 : Hid (SBlk (w.alloc (.cells #[.int .u64 0, .int .u64 0, .slice none 0 0, .slice none 0 0] 75)) w.heap.size 0 0 (.slice none 0 0) (.slice none 0 0)) := hid (SBlk.new w)
  have B1 : Hid (Below w.heap.size w (w.alloc (.cells #[.int .u64 0, .int .u64 0, .slice none 0 0, .slice none 0 0] 75))) := hid ((Below.refl _ _).alloc (Nat.le_refl _) _)
  generalize World.alloc w _ = w1 at *
  refine (snone sb db mb tb s w1 (H.out.below B1.out)).mono ?_
  rintro e w1' ⟨rfl, rfl⟩
  obtain ⟨r0, r1, _, _, _, _, _, _, _⟩ := HS.out.kept (Kept.of_below B1.out (S := fun _ => False) fun k h1 h2 => by omega) (fun h => h)
  obtain ⟨q0, q1, q2, q3, g0, g1, g2, g3⟩ := R1.out
  have hl1 := R1.out.lt
  go_wp2_with fail
  generalize hwF : World.setCell _ _ _ = wF
  have RF : Hid (SBlk wF w.heap.size 0 0 (.slice none 0 0) (.slice none 0 0)) := hid (by subst hwF; exact R1.out.set4 0 0 _ _)
  have BF : Hid (Below w.heap.size w wF) := hid (by subst hwF; exact B1.out.trans ((Kept.set4 w1 w.heap.size 0 0 _ _).below B1.out.size (fun k hk => by omega)))
  clear hwF q0 q1 q2 q3 g0 g1 g2 g3 r0 r1
  obtain ⟨q0, q1, q2, q3, _, _, _, _⟩ := RF.out
  refine bodyPost_ret (v := .tuple #[.agg #[.int .u64 0, .int .u64 0, .slice none 0 0, .slice none 0 0], .bool false]) (by simp [results, Tryz.results101, go_sem, q0, q1, q2, q3]) rfl ?_
  exact ⟨rfl, BF.out⟩

def OptStore (w : World) (p : Option Addr) (db mb tb : Nat) (s : SnapS) : Prop := (p = none /\ s = zeroS) \/ ∃ sb, p = some ⟨sb, 0, none⟩ /\ StoreIs w sb db mb tb s /\ (s = zeroS \/ 1 <= s.i)
def SGet (s : SnapS) (w : World) : Ending -> World -> Prop := fun e w' => ∃ i t mv dv, e = .returned (.tuple #[.agg #[.int .u64 i, .int .u64 t, mv, dv], .bool (decide (0 < s.i))]) /\ SnapIs w' (.agg #[.int .u64 i, .int .u64 t, mv, dv]) s /\ Below w.heap.size w w'
theorem sget_all (p : Option Addr) (db mb tb : Nat) (s : SnapS) (w : World) (h : OptStore w p db mb tb s) : Calls Tryz.prog 101 #[.pointer p] w (SGet s w) := by
  rcases h with ⟨rfl, rfl⟩ | ⟨sb, rfl, h, hk⟩
  . refine (nos_get none w (.inl rfl)).mono ?_
    rintro e w1 ⟨rfl, hb⟩
    exact ⟨_, _, _, _, rfl, zero_is _, hb⟩
  . rcases hk with rfl | hk
    . refine (sget_0 sb db mb tb zeroS w h rfl).mono ?_
      rintro e w1 ⟨rfl, hb⟩
      exact ⟨_, _, _, _, rfl, zero_is _, hb⟩
    . refine (sget_any sb db mb tb s w h (by omega)).mono ?_
      rintro e w1 ⟨v, rfl, ⟨mv, dv, rfl, h1, h2⟩, hb⟩
      obtain ⟨_, _, _, h3, h4, _⟩ := h
      rw [show true = decide (0 < s.i) from (decide_eq_true (by omega)).symm]
      refine ⟨_, _, _, _, rfl, ⟨mv, dv, rfl, Ints.of_owns h1 h3.small, Bytes.of_owns h2 h4.lt h4.small⟩, hb⟩
theorem readS_ok (m : Nat) (l : List Nat) : readS m l = zeroS \/ 1 <= (readS m l).i := by
  unfold readS
  split
  . rename_i h
    exact .inr h.2.2.2.1
  . exact .inl rfl
theorem sopenS_ok (D : DiskS) : sopenS D = zeroS \/ 1 <= (sopenS D).i := by
  unfold sopenS
  split
  . exact .inl rfl
  . exact readS_ok _ _
end Go.Proofs.YtjdglpcnkiioeaaGreat
