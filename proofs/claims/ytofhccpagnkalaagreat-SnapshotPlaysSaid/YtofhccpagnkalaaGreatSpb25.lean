/- Several texts in one: Vr, Vt, Vu, Vz, Rf, Rg, Rh, Rv, Ri, Rn. What each proves stands ahead of it; together they serve splays_law_holds. No conditions but those stated. -/
import Derived.Test.YtofhccpagnkalaaGreatSpb23
import Derived.Test.YtofhccpagnkalaaGreatSpb19
import Derived.Test.YtofhccpagnkalaaGreatSpb15
import Derived.Test.YtofhccpagnkalaaGreatSpb22
import Derived.Test.YtofhccpagnkalaaGreatSpb24
import Derived.Test.YtofhccpagnkalaaGreatSpb7
import Derived.Test.YtofhccpagnkalaaGreatSpb13
/- What is found among a disk's files behind a change and behind a crash; plain. -/
namespace Go.Proofs.YtofhccpagnkalaaGreat
open Go.RowKit Go.Maps Go.Proofs.Own

theorem find_cons_eq {n : ByteArray} {g : FileS} {L : List FileS} (h : g.name = n) : findFile n (g :: L) = some g := by
  unfold findFile
  rw [List.find?_cons_of_pos (by simpa using h)]
theorem find_cons_ne {n : ByteArray} {g : FileS} {L : List FileS} (h : ¬ g.name = n) : findFile n (g :: L) = findFile n L := by
  unfold findFile
  rw [List.find?_cons_of_neg (by simpa using h)]
theorem find_ins_ne {n : ByteArray} {f : FileS} (h : ¬ f.name = n) : ∀ L, findFile n (insFile f L) = findFile n L
  | [] => find_cons_ne h
  | g :: r => by
    unfold insFile
    split
    · exact find_cons_ne h
    · by_cases hg : g.name = n
      · rw [find_cons_eq hg, find_cons_eq hg]
      · rw [find_cons_ne hg, find_cons_ne hg, find_ins_ne h r]
theorem find_ins_eq {n : ByteArray} {f : FileS} (h : f.name = n) : ∀ L, (∀ g ∈ L, ¬ g.name = n) → findFile n (insFile f L) = some f
  | [], _ => find_cons_eq h
  | g :: r, hd => by
    unfold insFile
    split
    · exact find_cons_eq h
    · rw [find_cons_ne (hd g List.mem_cons_self)]
      exact find_ins_eq h r fun x hx => hd x (List.mem_cons_of_mem _ hx)
theorem find_none {n : ByteArray} {L : List FileS} (h : ∀ g ∈ L, ¬ g.name = n) : findFile n L = none := by
  unfold findFile
  rw [List.find?_eq_none]
  intro g hg
  simpa using h g hg
theorem find_del_eq (n : ByteArray) (L : List FileS) : findFile n (delFile n L) = none := find_none fun _g hg => (mem_del.1 hg).2
theorem find_del_ne {n m : ByteArray} (h : ¬ m = n) : ∀ L, findFile n (delFile m L) = findFile n L
  | [] => rfl
  | g :: r => by
    have ih := find_del_ne h r
    unfold delFile at ih ⊢
    by_cases hg : g.name = m
    · rw [List.filter_cons_of_neg (by simp [hg]), ih, find_cons_ne (by rw [hg]; exact h)]
    · rw [List.filter_cons_of_pos (by simp [hg])]
      by_cases hn : g.name = n
      · rw [find_cons_eq hn, find_cons_eq hn]
      · rw [find_cons_ne hn, find_cons_ne hn, ih]
theorem find_put_eq (f : FileS) (L : List FileS) : findFile f.name (putFile f L) = some f := find_ins_eq rfl _ fun _g hg => (mem_del.1 hg).2
theorem find_put_ne {n : ByteArray} {f : FileS} (h : ¬ f.name = n) (L : List FileS) : findFile n (putFile f L) = findFile n L := (find_ins_ne h _).trans (find_del_ne h L)

theorem crash1_name {f g : FileS} {ts : List (Nat × Nat)} (h : g ∈ crash1 f ts) : g.name = f.name := by
  unfold crash1 at h
  split at h
  · split at h
    · cases h
    · obtain rfl := List.mem_singleton.1 h; rfl
  · split at h
    · cases h
    · obtain rfl := List.mem_singleton.1 h; rfl
theorem crashL_name {g : FileS} : ∀ {L : List FileS} {ts : List (Nat × Nat)}, g ∈ crashL L ts → ∃ f ∈ L, g.name = f.name
  | [], _, h => by cases h
  | f :: r, ts, h => by
    rcases List.mem_append.1 h with h | h
    · exact ⟨f, List.mem_cons_self, crash1_name h⟩
    · obtain ⟨x, h1, h2⟩ := crashL_name h
      exact ⟨x, List.mem_cons_of_mem _ h1, h2⟩
theorem find_app_none {n : ByteArray} {A B : List FileS} (h : ∀ g ∈ A, ¬ g.name = n) : findFile n (A ++ B) = findFile n B := by
  unfold findFile
  rw [List.find?_append, List.find?_eq_none.2 (fun g hg => by simpa using h g hg)]
  rfl
/-- A file behind a crash is what the crash leaves of it, by some tear. -/
theorem find_crash (n : ByteArray) : ∀ (L : List FileS) (ts : List (Nat × Nat)), L.Pairwise (fun a b => ¬ b.name = a.name) → ∃ us, findFile n (crashL L ts) = (findFile n L).bind fun f => (crash1 f us).head?
  | [], ts, _ => ⟨[], rfl⟩
  | f :: r, ts, hp => by
    obtain ⟨h1, h2⟩ := List.pairwise_cons.1 hp
    by_cases hn : f.name = n
    · refine ⟨ts, ?_⟩
      rw [find_cons_eq hn]
      show findFile n (crash1 f ts ++ crashL r (tears1 f ts)) = (crash1 f ts).head?
      match e : crash1 f ts with
      | [] =>
        rw [List.nil_append]
        refine find_none fun g hg => ?_
        obtain ⟨x, hx, e2⟩ := crashL_name hg
        rw [e2, ← hn]
        exact h1 x hx
      | g :: t =>
        have hg : g.name = n := (crash1_name (f := f) (ts := ts) (by rw [e]; exact List.mem_cons_self)).trans hn
        exact find_cons_eq hg
    · obtain ⟨us, hu⟩ := find_crash n r (tears1 f ts) h2
      refine ⟨us, ?_⟩
      rw [find_cons_ne hn, ← hu]
      exact find_app_none fun g hg => by rw [crash1_name hg]; exact hn
theorem Rising.apart {L : List FileS} (h : Rising L) : L.Pairwise (fun a b => ¬ b.name = a.name) := h.imp fun hl => (nameLt_ne hl).symm
end Go.Proofs.YtofhccpagnkalaaGreat

/- What Open makes of the vow's file behind a crash; plain. -/
namespace Go.Proofs.YtofhccpagnkalaaGreat
open Go.RowKit Go.Maps Go.Proofs.Own

/-- The disk has power, and none is about to go. -/
def Calm (D : DiskS) : Prop := D.down = false ∧ D.armed = -1
theorem Calm.step {D : DiskS} (h : Calm D) (L : List FileS) : Calm { stepD D with files := L } := by
  unfold Calm stepD
  rw [if_neg (by rw [h.2]; decide), if_neg (by rw [h.2]; decide)]
  exact h
end Go.Proofs.YtofhccpagnkalaaGreat

/- What a write of the vow leaves of its file, well or not; plain. -/
namespace Go.Proofs.YtofhccpagnkalaaGreat
open Go.RowKit Go.Maps Go.Proofs.Own

theorem stepD_down {D : DiskS} (hd : D.down = false) : (stepD D).down = true ↔ D.armed = 0 := by
  unfold stepD
  by_cases h : D.armed = 0
  · rw [if_pos h]; simp [h]
  · rw [if_neg h]
    split <;> simp [h, hd]
theorem stepD_up {D : DiskS} (hd : D.down = false) (ha : ¬ D.armed = 0) : (stepD D).down = false := by
  have := (not_congr (stepD_down hd)).2 ha
  simpa using this
/-- What a write has left: nothing told, all told, or the power gone between. -/
structure WrPost (n : ByteArray) (r : DiskS × Nat) (l b : List Nat) : Prop where
  ok : r.2 = 0 → r.1.down = false ∧ getF r.1 n = ⟨n, l ++ b, (l ++ b).length⟩
  no : r.2 ≠ 0 → r.1.down = false → getF r.1 n = ⟨n, l, l.length⟩
  gone : r.1.down = true → getF r.1 n = ⟨n, l, l.length⟩ ∨ getF r.1 n = ⟨n, l ++ b, l.length⟩
theorem wr_short {n : ByteArray} {D : DiskS} (hd : D.down = false) {l : List Nat} (hf : getF D n = ⟨n, l, l.length⟩) (b : List Nat) : WrPost n (wrTo D n b) l b := by
  unfold wrTo appendD
  by_cases ha : appE D n b ≠ 0
  · rw [if_pos ha, if_pos ha]
    refine ⟨fun h => absurd h ha, fun _ _ => hf, fun h => ?_⟩
    simp only [hd] at h; cases h
  · rw [if_neg ha]
    have hdn : (appD D n b).down = false := hd
    have har : (appD D n b).armed = D.armed := rfl
    have hfd : findFile n (stepD (appD D n b)).files = some ⟨n, l ++ b, l.length⟩ := by
      rw [stepD_files]
      unfold appD
      rw [hf]
      exact find_put_eq ⟨n, l ++ b, l.length⟩ D.files
    by_cases h0 : D.armed = 0
    · have he : stepE D = 50 := if_pos h0
      have hdw : (stepD (appD D n b)).down = true := (stepD_down hdn).2 (har.trans h0)
      rw [he, if_pos (by simp)]
      refine ⟨fun h => ?_, fun _ h => ?_, fun _ => Or.inr (getF_some hfd)⟩
      · simp at h
      · simp only [hdw] at h; cases h
    · have he : stepE D = 0 := if_neg h0
      rw [he, if_neg (by simp)]
      have hup : (stepD (appD D n b)).down = false := stepD_up hdn (by rw [har]; exact h0)
      generalize stepD (appD D n b) = E at *
      unfold syncD
      simp only [hfd]
      rw [if_neg (by rw [hup]; decide)]
      by_cases h1 : E.armed = 0
      · rw [if_pos h1]
        have hdw : (stepD E).down = true := (stepD_down hup).2 h1
        have hg : getF (stepD E) n = ⟨n, l ++ b, l.length⟩ := by unfold getF; rw [stepD_files, hfd]; rfl
        refine ⟨fun h => ?_, fun _ h => ?_, fun _ => Or.inr hg⟩
        · simp at h
        · simp only [hdw] at h; cases h
      · rw [if_neg h1]
        have hdw : (stepD E).down = false := stepD_up hup h1
        refine ⟨fun _ => ⟨hdw, getF_some (find_put_eq ⟨n, l ++ b, (l ++ b).length⟩ E.files)⟩, fun h => absurd rfl h, fun h => ?_⟩
        simp only [hdw] at h; cases h
theorem find_of_getF {D : DiskS} {n : ByteArray} {b : List Nat} {k : Nat} (h : getF D n = ⟨n, b, k⟩) (hb : b ≠ []) : findFile n D.files = some ⟨n, b, k⟩ := by
  cases e : findFile n D.files with
  | none => rw [getF_none e] at h; exact absurd (FileS.mk.inj h).2.1.symm hb
  | some f => rw [getF_some e] at h; rw [h]
end Go.Proofs.YtofhccpagnkalaaGreat

/- What a crash, Boot, Arm and Resize keep of a disk's bounds; that the power's end is told; plain. -/
namespace Go.Proofs.YtofhccpagnkalaaGreat
open Go.RowKit Go.Maps Go.Proofs.Own

theorem total_app (A B : List FileS) : total (A ++ B) = total A + total B := by simp [total]
theorem crash1_fits {f : FileS} (ts : List (Nat × Nat)) (hf : f.kept ≤ f.all.length) : total (crash1 f ts) ≤ f.all.length ∧ ∀ g ∈ crash1 f ts, g.name = f.name ∧ g.kept ≤ g.all.length := by
  refine ⟨?_, fun g hg => ⟨crash1_name hg, ?_⟩⟩
  · unfold crash1
    split
    · split
      · simp [total]
      · have := length_tornL (f.all.drop f.kept) (ts.headD (0, 0))
        rw [List.length_drop] at this
        rw [total_cons]
        simp only [total, List.map_nil, List.sum_nil, List.length_append, List.length_take]
        omega
    · split
      · simp [total]
      · rw [total_cons]
        simp [total]
  · unfold crash1 at hg
    split at hg
    · split at hg
      · cases hg
      · obtain rfl := List.mem_singleton.1 hg; exact Nat.le_refl _
    · split at hg
      · cases hg
      · obtain rfl := List.mem_singleton.1 hg; exact hf
theorem crashL_fits : ∀ (L : List FileS) (ts : List (Nat × Nat)), (∀ f ∈ L, f.name.size ≤ 16 ∧ f.kept ≤ f.all.length) → total (crashL L ts) ≤ total L ∧ ∀ g ∈ crashL L ts, g.name.size ≤ 16 ∧ g.kept ≤ g.all.length
  | [], _, _ => ⟨Nat.le_refl _, nofun⟩
  | f :: r, ts, h => by
    obtain ⟨h1, h2⟩ := crash1_fits ts (h f List.mem_cons_self).2
    obtain ⟨h3, h4⟩ := crashL_fits r (tears1 f ts) fun g hg => h g (List.mem_cons_of_mem _ hg)
    refine ⟨?_, fun g hg => ?_⟩
    · show total (crash1 f ts ++ crashL r (tears1 f ts)) ≤ _
      rw [total_app, total_cons]
      omega
    · rcases List.mem_append.1 hg with hg | hg
      · obtain ⟨e1, e2⟩ := h2 g hg
        exact ⟨by rw [e1]; exact (h f List.mem_cons_self).1, e2⟩
      · exact h4 g hg
theorem DGood.crash {D : DiskS} (h : DGood D) (ts : List (Nat × Nat)) : DGood (crashD D ts) := by
  obtain ⟨h1, h2⟩ := crashL_fits D.files ts h.wf.each
  have h3 := length_crashL D.files ts
  have h4 := h.tot
  have h5 := h.few
  exact ⟨⟨h.wf.room0, h.wf.room1, by show (-1 : Int) ≤ -1; decide, by show (-1 : Int) ≤ _; decide, h.wf.steps0, h.wf.steps1, by show (crashL D.files ts).length ≤ _; omega, h2⟩, by show total (crashL D.files ts) ≤ _; omega, by show (crashL D.files ts).length ≤ _; omega⟩
theorem DGood.boot {D : DiskS} (h : DGood D) : DGood (bootD D) :=
  ⟨⟨h.wf.room0, h.wf.room1, by show (-1 : Int) ≤ -1; decide, by show (-1 : Int) ≤ _; decide, h.wf.steps0, h.wf.steps1, h.wf.many, h.wf.each⟩, h.tot, h.few⟩
theorem DGood.arm {D : DiskS} (h : DGood D) (n : Int) (hn : n ≤ 9223372036854775807) : DGood (armD D n).1 := by
  unfold armD
  split
  · exact h
  · split
    · exact h
    · exact ⟨⟨h.wf.room0, h.wf.room1, by simp only; omega, hn, h.wf.steps0, h.wf.steps1, h.wf.many, h.wf.each⟩, h.tot, h.few⟩
theorem DGood.resize {D : DiskS} (h : DGood D) (n : Int) : DGood (resizeD D n).1 := by
  unfold resizeD
  split
  · exact h
  · split
    · exact h
    · exact ⟨⟨by simp only; omega, by simp only; omega, h.wf.armed0, h.wf.armed1, h.wf.steps0, h.wf.steps1, h.wf.many, h.wf.each⟩, h.tot, h.few⟩
theorem armD_same (D : DiskS) (n : Int) : (armD D n).1.files = D.files ∧ (armD D n).1.down = D.down ∧ (armD D n).1.steps = D.steps := by
  unfold armD
  split
  · exact ⟨rfl, rfl, rfl⟩
  · split <;> exact ⟨rfl, rfl, rfl⟩
theorem resizeD_same (D : DiskS) (n : Int) : (resizeD D n).1.files = D.files ∧ (resizeD D n).1.down = D.down ∧ (resizeD D n).1.steps = D.steps := by
  unfold resizeD
  split
  · exact ⟨rfl, rfl, rfl⟩
  · split <;> exact ⟨rfl, rfl, rfl⟩
/-- Where the power goes at a call, the call tells it. -/
def Fell (r : DiskS × Nat) : Prop := r.1.down = true → r.2 = 50
theorem Fell.up {r : DiskS × Nat} (h : Fell r) (he : r.2 = 0) : r.1.down = false := by
  cases e : r.1.down with
  | false => rfl
  | true => have := h e; omega
theorem Fell.same {D : DiskS} (hd : D.down = false) (e : Nat) : Fell (D, e) := fun h => by simp only [hd] at h; cases h
theorem Fell.step {D : DiskS} (hd : D.down = false) : Fell (stepD D, stepE D) := fun h => by
  have := (stepD_down hd).1 h
  exact if_pos this
theorem fell_files {D : DiskS} (hd : D.down = false) (ha : ¬ D.armed = 0) (L : List FileS) : Fell ({ stepD D with files := L }, 0) := fun h => by
  have h' : (stepD D).down = true := h
  rw [stepD_up hd ha] at h'
  cases h'
theorem fell_remove {D : DiskS} (hd : D.down = false) (n : ByteArray) : Fell (removeD D n) := by
  unfold removeD
  split
  · rw [if_neg (by rw [hd]; decide)]
    split
    · exact fun _ => rfl
    · rename_i ha; exact fell_files hd ha _
  · exact Fell.same hd _
theorem fell_gone {D : DiskS} (hd : D.down = false) (n : ByteArray) : Fell (vgoneD D n) := fun h => by
  have := fell_remove hd n h
  show (if (removeD D n).2 = 31 then 0 else (removeD D n).2) = 50
  rw [this]
  rfl
end Go.Proofs.YtofhccpagnkalaaGreat

/- What the document's disk is: the same files, by strings; plain. -/
namespace Go.Proofs.YtofhccpagnkalaaGreat
open Go.RowKit Go.Maps Go.Proofs.Own

/-- A file's cells, as the document's. -/
def rfV (f : FileS) : List Value := [.string f.name, .string (strN f.all), .int .i64 f.kept]
/-- Its bytes are bytes. -/
def Byt8 (L : List FileS) : Prop := ∀ f ∈ L, ∀ c ∈ f.all, c < 256
/-- The value v is the document's disk D. -/
def RIs (w : World) (v : Value) (D : DiskS) : Prop := ∃ a c, v = .agg #[.int .i64 D.room, .slice a D.files.length c, .bool D.down, .int .i64 D.armed, .int .u64 D.steps] ∧ SRow w 3 (.slice a D.files.length c) (D.files.map rfV)
theorem RIs.below {w w' : World} {v : Value} {D : DiskS} (h : RIs w v D) (hb : Below w.heap.size w w') : RIs w' v D := let ⟨a, c, h1, h2⟩ := h; ⟨a, c, h1, h2.below hb⟩
theorem str_eq (a b : ByteArray) : (a.toList == b.toList) = decide (a = b) := by
  rw [ByteArray.toList_eq, ByteArray.toList_eq]
  by_cases h : a = b
  · subst h; simp
  · rw [decide_eq_false h]
    refine beq_eq_false_iff_ne.2 fun e => h ?_
    cases a; cases b
    congr
    exact Array.toList_inj.1 e
theorem less_before : ∀ a b : List UInt8, Op.bytesLess a b = bytesBefore a b
  | [], [] => rfl
  | [], _ :: _ => rfl
  | _ :: _, [] => rfl
  | a :: r, b :: s => by unfold Op.bytesLess bytesBefore; rw [less_before r s]
theorem str_lt (a b : ByteArray) : Op.bytesLess a.toList b.toList = nameLt a b := by
  rw [ByteArray.toList_eq, ByteArray.toList_eq, less_before]
  rfl
theorem strN_app (l m : List Nat) : strN l ++ strN m = strN (l ++ m) := by
  have h : (strN l ++ strN m).data = (strN (l ++ m)).data := by
    rw [ByteArray.data_append]
    simp [strN]
  cases h1 : strN l ++ strN m with
  | mk d => cases h2 : strN (l ++ m) with
    | mk d' => rw [h1, h2] at h; simp only at h; rw [h]
theorem strN_take (l : List Nat) (k : Nat) : (strN l).extract 0 k = strN (l.take k) := by
  have h : ((strN l).extract 0 k).data = (strN (l.take k)).data := by
    rw [ByteArray.data_extract]
    simp [strN, List.map_take]
  cases h1 : (strN l).extract 0 k with
  | mk d => cases h2 : strN (l.take k) with
    | mk d' => rw [h1, h2] at h; simp only at h; rw [h]
theorem strN_drop (l : List Nat) (k : Nat) : (strN l).extract k l.length = strN (l.drop k) := by
  have h : ((strN l).extract k l.length).data = (strN (l.drop k)).data := by
    rw [ByteArray.data_extract]
    simp [strN, List.map_drop, List.take_of_length_le]
  cases h1 : (strN l).extract k l.length with
  | mk d => cases h2 : strN (l.drop k) with
    | mk d' => rw [h1, h2] at h; simp only at h; rw [h]

/-- The place of a file, or -1. -/
def findI (n : ByteArray) (L : List FileS) : Int := if findFile n L = none then -1 else ((L.takeWhile fun f => !decide (f.name = n)).length : Nat)
theorem take_none {n : ByteArray} {L : List FileS} (h : ∀ f ∈ L, ¬ f.name = n) : findI n L = -1 := by unfold findI; rw [if_pos (find_none h)]
theorem find_first {n : ByteArray} : ∀ {L : List FileS} {i : Nat} {f : FileS}, L[i]? = some f → f.name = n → (∀ g ∈ L.take i, ¬ g.name = n) → findFile n L = some f ∧ (L.takeWhile fun f => !decide (f.name = n)).length = i
  | [], i, f, h, _, _ => by simp at h
  | g :: L, 0, f, h, hn, _ => by
    obtain rfl : g = f := by simpa using h
    exact ⟨find_cons_eq hn, by rw [List.takeWhile_cons_of_neg (by simpa using hn)]; rfl⟩
  | g :: L, i + 1, f, h, hn, hb => by
    have hg : ¬ g.name = n := hb g (by rw [List.take_succ_cons]; exact List.mem_cons_self)
    obtain ⟨h1, h2⟩ := find_first (L := L) (i := i) (f := f) (by simpa using h) hn fun q hq => hb q (by rw [List.take_succ_cons]; exact List.mem_cons_of_mem _ hq)
    exact ⟨(find_cons_ne hg).trans h1, by rw [List.takeWhile_cons_of_pos (by simpa using hg), List.length_cons, h2]⟩
theorem findI_first {n : ByteArray} {L : List FileS} {i : Nat} {f : FileS} (h : L[i]? = some f) (hn : f.name = n) (hb : ∀ g ∈ L.take i, ¬ g.name = n) : findI n L = i := by
  obtain ⟨h1, h2⟩ := find_first h hn hb
  unfold findI
  rw [if_neg (by rw [h1]; simp), h2]
/-- Where it is: there. -/
theorem findI_some {n : ByteArray} {L : List FileS} {f : FileS} (h : findFile n L = some f) : ∃ i : Nat, findI n L = i ∧ L[i]? = some f := by
  induction L with
  | nil => simp [findFile] at h
  | cons g L ih =>
    by_cases hg : g.name = n
    · rw [find_cons_eq hg] at h
      obtain rfl := Option.some.inj h
      exact ⟨0, findI_first rfl hg (by simp), rfl⟩
    · rw [find_cons_ne hg] at h
      obtain ⟨i, h1, h2⟩ := ih h
      refine ⟨i + 1, ?_, by simpa using h2⟩
      unfold findI at h1 ⊢
      rw [if_neg (by rw [h]; simp)] at h1
      rw [if_neg (by rw [find_cons_ne hg, h]; simp), List.takeWhile_cons_of_pos (by simpa using hg), List.length_cons]
      have : (L.takeWhile fun f => !decide (f.name = n)).length = i := by omega
      omega
theorem findI_none {n : ByteArray} {L : List FileS} : findI n L = -1 ↔ findFile n L = none := by
  constructor
  · intro h
    cases e : findFile n L with
    | none => rfl
    | some f =>
      obtain ⟨i, h1, _⟩ := findI_some e
      omega
  · intro h; unfold findI; rw [if_pos h]
/-- Insertion, as a walk along the row does it. -/
theorem ins_split (f : FileS) : ∀ L : List FileS, ∃ A B, L = A ++ B ∧ insFile f L = A ++ f :: B ∧ (∀ g ∈ A, nameLt f.name g.name = false) ∧ (∀ g, B.head? = some g → nameLt f.name g.name = true)
  | [] => ⟨[], [], rfl, rfl, nofun, nofun⟩
  | g :: L => by
    by_cases h : nameLt f.name g.name = true
    · refine ⟨[], g :: L, rfl, by rw [insFile, if_pos h]; rfl, fun q hq => (by cases hq), fun q hq => ?_⟩
      obtain rfl : g = q := Option.some.inj hq
      exact h
    · obtain ⟨A, B, h1, h2, h3, h4⟩ := ins_split f L
      refine ⟨g :: A, B, by rw [h1]; rfl, by rw [insFile, if_neg h, h2]; rfl, fun q hq => ?_, h4⟩
      rcases List.mem_cons.1 hq with rfl | hq
      · simpa using h
      · exact h3 q hq
end Go.Proofs.YtofhccpagnkalaaGreat

/- The document's disk: New, Arm, Boot, Resize, one step; contracts; no conditions but the ranges. -/
namespace Go.Proofs.YtofhccpagnkalaaGreat
open Go.RowKit Go.Maps Go.Proofs.Own

/-- Block b is the document's disk D; its files' value is fv. -/
structure RD (w : World) (b : Nat) (D : DiskS) (fv : Value) : Prop where
  c0 : w.cell? ⟨b, 0, none⟩ = some (.int .i64 D.room)
  c1 : w.cell? ⟨b, 1, none⟩ = some fv
  c2 : w.cell? ⟨b, 2, none⟩ = some (.bool D.down)
  c3 : w.cell? ⟨b, 3, none⟩ = some (.int .i64 D.armed)
  c4 : w.cell? ⟨b, 4, none⟩ = some (.int .u64 D.steps)
  f0 : w.frozen? ⟨b, 0, none⟩ = false
  f1 : w.frozen? ⟨b, 1, none⟩ = false
  f2 : w.frozen? ⟨b, 2, none⟩ = false
  f3 : w.frozen? ⟨b, 3, none⟩ = false
  f4 : w.frozen? ⟨b, 4, none⟩ = false
theorem RD.lt {w : World} {b : Nat} {D : DiskS} {fv : Value} (h : RD w b D fv) : b < w.heap.size := World.block_lt_of_cell? _ _ h.c0
theorem RD.kept {w w' : World} {b : Nat} {D : DiskS} {fv : Value} {S : Nat → Prop} (h : RD w b D fv) (hk : Kept w w' S) (hs : ¬ S b) : RD w' b D fv :=
  ⟨hk.cell h.c0 hs, hk.cell h.c1 hs, hk.cell h.c2 hs, hk.cell h.c3 hs, hk.cell h.c4 hs, (hk.frozen (a := ⟨b, 0, none⟩) h.lt hs).trans h.f0, (hk.frozen (a := ⟨b, 1, none⟩) h.lt hs).trans h.f1, (hk.frozen (a := ⟨b, 2, none⟩) h.lt hs).trans h.f2, (hk.frozen (a := ⟨b, 3, none⟩) h.lt hs).trans h.f3, (hk.frozen (a := ⟨b, 4, none⟩) h.lt hs).trans h.f4⟩
theorem RD.below {w w' : World} {b : Nat} {D : DiskS} {fv : Value} (h : RD w b D fv) (hb : Below w.heap.size w w') : RD w' b D fv := h.kept (Kept.of_below hb (S := fun _ => False) fun k h1 h2 => by omega) (fun h => h)
theorem RD.box (w : World) (D : DiskS) (fv : Value) : RD (w.alloc (.cells #[.int .i64 D.room, fv, .bool D.down, .int .i64 D.armed, .int .u64 D.steps] 29)) w.heap.size D fv :=
  ⟨by go_cell, by go_cell, by go_cell, by go_cell, by go_cell, by simp, by simp, by simp, by simp, by simp⟩
def zeroD : DiskS := ⟨0, [], false, 0, 0⟩
theorem RD.zero (w : World) : RD (w.alloc (.cells #[.int .i64 0, .slice none 0 0, .bool false, .int .i64 0, .int .u64 0] 29)) w.heap.size zeroD (.slice none 0 0) := RD.box w zeroD _
/-- All five cells are laid anew. -/
def set5D (w : World) (b : Nat) (D : DiskS) (fv : Value) : World :=
  ((((w.setCell ⟨b, 0, none⟩ (.int .i64 D.room)).setCell ⟨b, 1, none⟩ fv).setCell ⟨b, 2, none⟩ (.bool D.down)).setCell ⟨b, 3, none⟩ (.int .i64 D.armed)).setCell ⟨b, 4, none⟩ (.int .u64 D.steps)
theorem Kept.set5D (w : World) (b : Nat) (D : DiskS) (fv : Value) : Kept w (set5D w b D fv) (fun k => k = b) :=
  ((((Kept.setCell w ⟨b, 0, none⟩ _).trans (Kept.setCell _ ⟨b, 1, none⟩ _)).trans (Kept.setCell _ ⟨b, 2, none⟩ _)).trans (Kept.setCell _ ⟨b, 3, none⟩ _)).trans (Kept.setCell _ ⟨b, 4, none⟩ _)
theorem RD.set {w : World} {b : Nat} {D : DiskS} {fv : Value} (h : RD w b D fv) (D' : DiskS) (fv' : Value) : RD (set5D w b D' fv') b D' fv' := by
  unfold set5D
  refine ⟨?_, ?_, ?_, ?_, ?_, ?_, ?_, ?_, ?_, ?_⟩
  · rw [World.cell?_setCell_other _ _ _ _ (by simp), World.cell?_setCell_other _ _ _ _ (by simp), World.cell?_setCell_other _ _ _ _ (by simp), World.cell?_setCell_other _ _ _ _ (by simp)]; exact World.cell?_setCell_same _ _ _ h.c0
  · rw [World.cell?_setCell_other _ _ _ _ (by simp), World.cell?_setCell_other _ _ _ _ (by simp), World.cell?_setCell_other _ _ _ _ (by simp)]; exact World.cell?_setCell_same _ _ _ (by rw [World.cell?_setCell_other _ _ _ _ (by simp)]; exact h.c1)
  · rw [World.cell?_setCell_other _ _ _ _ (by simp), World.cell?_setCell_other _ _ _ _ (by simp)]; exact World.cell?_setCell_same _ _ _ (by rw [World.cell?_setCell_other _ _ _ _ (by simp), World.cell?_setCell_other _ _ _ _ (by simp)]; exact h.c2)
  · rw [World.cell?_setCell_other _ _ _ _ (by simp)]; exact World.cell?_setCell_same _ _ _ (by rw [World.cell?_setCell_other _ _ _ _ (by simp), World.cell?_setCell_other _ _ _ _ (by simp), World.cell?_setCell_other _ _ _ _ (by simp)]; exact h.c3)
  · exact World.cell?_setCell_same _ _ _ (by rw [World.cell?_setCell_other _ _ _ _ (by simp), World.cell?_setCell_other _ _ _ _ (by simp), World.cell?_setCell_other _ _ _ _ (by simp), World.cell?_setCell_other _ _ _ _ (by simp)]; exact h.c4)
  · rw [World.frozen?_setCell, World.frozen?_setCell, World.frozen?_setCell, World.frozen?_setCell, World.frozen?_setCell]; exact h.f0
  · rw [World.frozen?_setCell, World.frozen?_setCell, World.frozen?_setCell, World.frozen?_setCell, World.frozen?_setCell]; exact h.f1
  · rw [World.frozen?_setCell, World.frozen?_setCell, World.frozen?_setCell, World.frozen?_setCell, World.frozen?_setCell]; exact h.f2
  · rw [World.frozen?_setCell, World.frozen?_setCell, World.frozen?_setCell, World.frozen?_setCell, World.frozen?_setCell]; exact h.f3
  · rw [World.frozen?_setCell, World.frozen?_setCell, World.frozen?_setCell, World.frozen?_setCell, World.frozen?_setCell]; exact h.f4
/-- What a call of the document's disk tells: a disk, and a number. -/
def RPost (r : DiskS × Nat) (w : World) : Ending → World → Prop := fun e w' => ∃ v, e = .returned (.tuple #[v, .int .i64 r.2]) ∧ RIs w' v r.1 ∧ Below w.heap.size w w'
/-- .. its files' rows new. -/
def RNew (D : DiskS) (w : World) : Ending → World → Prop := fun e w' => ∃ a c, e = .returned (.agg #[.int .i64 D.room, .slice a D.files.length c, .bool D.down, .int .i64 D.armed, .int .u64 D.steps]) ∧ SRow w' 3 (.slice a D.files.length c) (D.files.map rfV) ∧ (∀ g, (Value.slice a D.files.length c).ownBlock = some g → w.heap.size ≤ g) ∧ Below w.heap.size w w'
/-- A step: the disk, its files as they were, and whether the power is there still. -/
def StepPost (D : DiskS) (a : Option Addr) (n c : Nat) (w : World) : Ending → World → Prop := fun e w' => e = .returned (.tuple #[.agg #[.int .i64 D.room, .slice a n c, .bool (stepD D).down, .int .i64 (stepD D).armed, .int .u64 (stepD D).steps], .bool (decide (D.armed ≠ 0))]) ∧ Below w.heap.size w w'
set_option maxHeartbeats 1000000 in
theorem rstep_any (D : DiskS) (a : Option Addr) (n c : Nat) (w : World) (hs0 : 0 ≤ D.steps) (hs1 : D.steps ≤ 1000000000) (ha0 : -1 ≤ D.armed) (ha1 : D.armed ≤ 9223372036854775807) : Calls Tryz.prog 39 #[.agg #[.int .i64 D.room, .slice a n c, .bool D.down, .int .i64 D.armed, .int .u64 D.steps]] w (StepPost D a n c w) := by
  obtain ⟨room, L, down, armed, steps⟩ := D
  simp only at hs0 hs1 ha0 ha1 ⊢
  unfold StepPost stepD
  by_cases h0 : armed = 0
  · subst h0
    simp only [if_true, ne_eq, not_true_eq_false, decide_false]
    go_enter Tryz.func39, Tryz.ntmps39
    go_wp2_with fail
    refine bodyPost_ret (v := .tuple #[.agg #[.int .i64 room, .slice a n c, .bool true, .int .i64 (-1), .int .u64 (steps + 1)], .bool false]) (by simp [results, Tryz.results39, go_sem]) rfl ?_
    exact ⟨rfl, ((Below.refl _ _).alloc (Nat.le_refl _) _).alloc (by simp) _⟩
  · have hd : decide (armed ≠ 0) = true := decide_eq_true h0
    simp only [if_neg h0]
    rw [hd]
    have h0b : (armed == 0) = false := beq_eq_false_iff_ne.2 h0
    by_cases hp : 0 < armed
    · rw [if_pos hp]
      go_enter Tryz.func39, Tryz.ntmps39
      go_wp2_with fail
      refine bodyPost_ret (v := .tuple #[.agg #[.int .i64 room, .slice a n c, .bool down, .int .i64 (armed - 1), .int .u64 (steps + 1)], .bool true]) (by simp [results, Tryz.results39, go_sem]) rfl ?_
      exact ⟨rfl, ((Below.refl _ _).alloc (Nat.le_refl _) _).alloc (by simp) _⟩
    · rw [if_neg hp]
      go_enter Tryz.func39, Tryz.ntmps39
      go_wp2_with fail
      refine bodyPost_ret (v := .tuple #[.agg #[.int .i64 room, .slice a n c, .bool down, .int .i64 armed, .int .u64 (steps + 1)], .bool true]) (by simp [results, Tryz.results39, go_sem]) rfl ?_
      exact ⟨rfl, ((Below.refl _ _).alloc (Nat.le_refl _) _).alloc (by simp) _⟩
/-- A text that may be a name. -/
def isName (n : ByteArray) : Bool := decide (1 ≤ n.size ∧ n.size ≤ 16)
theorem rnamed_any (n : ByteArray) (w : World) (hn : n.size ≤ 9223372036854775807) : Calls Tryz.prog 36 #[.string n] w fun e w' => e = .returned (.bool (isName n)) ∧ w = w' := by
  by_cases h1 : 1 ≤ n.size
  · have b1 : (1 : Int) ≤ (n.size : Int) := by omega
    by_cases h2 : n.size ≤ 16
    · have b2 : (n.size : Int) ≤ 16 := by omega
      have HV : Hid (isName n = true) := Lib.hid (decide_eq_true ⟨h1, h2⟩)
      clear h1 h2
      go_enter Tryz.func36, Tryz.ntmps36
      go_wp2_with fail
      go_ret
      exact ⟨by rw [HV.out]; rfl, rfl⟩
    · have b2 : ¬ (n.size : Int) ≤ 16 := by omega
      have HV : Hid (isName n = false) := Lib.hid (decide_eq_false fun h => h2 h.2)
      clear h1 h2
      go_enter Tryz.func36, Tryz.ntmps36
      go_wp2_with fail
      go_ret
      exact ⟨by rw [HV.out]; rfl, rfl⟩
  · have b1 : ¬ (1 : Int) ≤ (n.size : Int) := by omega
    have HV : Hid (isName n = false) := Lib.hid (decide_eq_false fun h => h1 h.1)
    clear h1
    go_enter Tryz.func36, Tryz.ntmps36
    go_wp2_with fail
    go_ret
    exact ⟨by rw [HV.out]; rfl, rfl⟩

/-- The cells of a file among the files. -/
theorem SRow.file {w : World} {a : Option Addr} {n c : Nat} {L : List FileS} (h : SRow w 3 (.slice a n c) (L.map rfV)) {j : Nat} {f : FileS} (hj : L[j]? = some f) :
    ∃ b o, a = some ⟨b, o, none⟩ ∧ b < w.heap.size ∧ w.cell? ⟨b, o + j * 3, none⟩ = some (.string f.name) ∧ w.cell? ⟨b, o + j * 3 + 1, none⟩ = some (.string (strN f.all)) ∧ w.cell? ⟨b, o + j * 3 + 2, none⟩ = some (.int .i64 f.kept) := by
  obtain ⟨hl, he⟩ := List.getElem?_eq_some_iff.1 hj
  obtain ⟨b, o, h1, h2, h3⟩ := h.at (j := j) (by rw [List.length_map]; exact hl)
  rw [List.getElem_map, he] at h3
  exact ⟨b, o, h1, h2, by have := h3 0 _ rfl; rwa [Nat.add_zero] at this, h3 1 _ rfl, h3 2 _ rfl⟩
theorem getAt {α : Type} {l : List α} {j : Nat} (hj : j < l.length) : ∃ x, l[j]? = some x ∧ x ∈ l := ⟨l[j], List.getElem?_eq_getElem hj, List.getElem_mem hj⟩

set_option maxHeartbeats 1600000 in
set_option maxRecDepth 20000 in
theorem rfind_any (v : Value) (D : DiskS) (n : ByteArray) (w : World) (h : RIs w v D) (hm : D.files.length ≤ 1000) : Calls Tryz.prog 37 #[v, .string n] w fun e w' => e = .returned (.int .i64 (findI n D.files)) ∧ Below w.heap.size w w' := by
  obtain ⟨a, c, rfl, hr⟩ := h
  obtain ⟨room, L, down, armed, steps⟩ := D
  simp only at hr hm ⊢
  have HR := Lib.hid hr
  obtain ⟨m, hlm⟩ : ∃ m, L.length = m := ⟨_, rfl⟩
  have HL := Lib.hid hlm
  rw [hlm] at HR hm ⊢
  clear hr hlm
  go_enter Tryz.func37, Tryz.ntmps37
  go_wp2_with fail
  have BX := RD.box w ⟨room, L, down, armed, steps⟩ (.slice a m c)
  simp only at BX
  have B1 : Hid (Below w.heap.size w (w.alloc (.cells #[.int .i64 room, .slice a m c, .bool down, .int .i64 armed, .int .u64 steps] 29))) := Lib.hid ((Below.refl _ _).alloc (Nat.le_refl _) _)
  generalize World.alloc w _ = w1 at *
  have BX1 := Lib.hid BX
  clear BX
  go_loopw [5] (fun i wr => ∃ j : Nat, i = .int .i64 j ∧ j ≤ m ∧ (∀ g ∈ L.take j, ¬ g.name = n) ∧ wr = w1) (fun i _ => m - (intOf i).toNat)
  case atStart => exact ⟨0, rfl, by omega, by simp, rfl⟩
  case round =>
    obtain ⟨j, rfl, hj, hall, rfl⟩ := hrel
    have HA := Lib.hid hall
    clear hall
    obtain ⟨r0, r1, r2, r3, r4, _⟩ := BX1.out
    by_cases hlt : j < m
    · obtain ⟨f, hf, _⟩ := getAt (l := L) (j := j) (by rw [HL.out]; exact hlt)
      obtain ⟨b, o, rfl, hbl, c0, c1, c2⟩ := (HR.out.below B1.out).file hf
      have HF := Lib.hid hf
      clear hf
      by_cases hn : f.name = n
      · have hb : (f.name.toList == n.toList) = true := by rw [str_eq]; exact decide_eq_true hn
        have HV : Hid (findI n L = j) := Lib.hid (findI_first HF.out hn HA.out)
        clear hn
        go_wp2_with fail
        go_ret
        exact ⟨by rw [HV.out]; rfl, B1.out⟩
      · have hb : (f.name.toList == n.toList) = false := by rw [str_eq]; exact decide_eq_false hn
        have HNN := Lib.hid hn
        clear hn
        go_wp2_with fail
        go_roundw
        case rel =>
          refine ⟨j + 1, by first | rfl | go_num, by omega, fun g hg => ?_, by first | trivial | rfl⟩
          rw [List.take_add_one, HF.out] at hg
          rcases List.mem_append.1 hg with hg | hg
          · exact HA.out g hg
          · obtain rfl := List.mem_singleton.1 hg
            exact HNN.out
        all_goals (show m - ((j : Int) + 1).toNat < m - ((j : Int)).toNat; omega)
    · obtain rfl : j = m := by omega
      have HV : Hid (findI n L = -1) := Lib.hid (take_none fun f hf => HA.out f (by rw [List.take_of_length_le (by rw [HL.out]; exact Nat.le_refl _)]; exact hf))
      go_wp2_with fail
      go_ret
      exact ⟨by rw [HV.out]; rfl, B1.out⟩
end Go.Proofs.YtofhccpagnkalaaGreat

/- The document's disk without a file, and with one; contracts; no conditions but the ranges. -/
namespace Go.Proofs.YtofhccpagnkalaaGreat
open Go.RowKit Go.Maps Go.Proofs.Own

theorem rfile3 : RowSlice Tryz.prog 26 96 3 40 := by
  obtain ⟨i0, hi, hz0, hz1, hz2⟩ := info_parts (show (Tryz.prog.info? 96).map (fun i => (i.zero, i.size, i.bytes)) = some (some (.agg #[.string ⟨#[]⟩, .string ⟨#[]⟩, .int .i64 0]), 3, 40) by kernel_rfl)
  exact ⟨Tryz.underlying26, ⟨i0, _, hi, hz0, hz1, hz2, rfl⟩, by decide, by decide⟩
theorem rfV_len (f : FileS) : (rfV f).length = 3 := rfl
theorem rfV_one (f : FileS) : ∀ u ∈ rfV f, u.oneCell' = true := by
  intro u hu
  simp only [rfV, List.mem_cons, List.not_mem_nil, or_false] at hu
  rcases hu with rfl | rfl | rfl <;> rfl
theorem rfV_cells (w : World) (f : FileS) : ∀ j u, (rfV f)[j]? = some u → (w.alloc (.cells #[.string f.name, .string (strN f.all), .int .i64 f.kept] 96)).cell? ⟨w.heap.size, j, none⟩ = some u := by
  intro j u hu
  match j, hu with
  | 0, hu => obtain rfl : Value.string f.name = u := Option.some.inj hu; go_cell
  | 1, hu => obtain rfl : Value.string (strN f.all) = u := Option.some.inj hu; go_cell
  | 2, hu => obtain rfl : Value.int .i64 f.kept = u := Option.some.inj hu; go_cell
theorem del_take_yes {n : ByteArray} {L : List FileS} {j : Nat} {f : FileS} (hf : L[j]? = some f) (hn : f.name = n) : delFile n (L.take (j + 1)) = delFile n (L.take j) := by
  unfold delFile
  rw [List.take_add_one, hf, List.filter_append]
  simp [hn]
theorem del_take_no {n : ByteArray} {L : List FileS} {j : Nat} {f : FileS} (hf : L[j]? = some f) (hn : ¬ f.name = n) : delFile n (L.take (j + 1)) = delFile n (L.take j) ++ [f] := by
  unfold delFile
  rw [List.take_add_one, hf, List.filter_append]
  simp [hn]

set_option maxHeartbeats 2000000 in
set_option maxRecDepth 20000 in
theorem rwithout_any (v : Value) (D : DiskS) (n : ByteArray) (w : World) (h : RIs w v D) (hm : D.files.length ≤ 1000) : Calls Tryz.prog 80 #[v, .string n] w (RNew { D with files := delFile n D.files } w) := by
  obtain ⟨a, c, rfl, hr⟩ := h
  obtain ⟨room, L, down, armed, steps⟩ := D
  simp only at hr hm ⊢
  have HR := Lib.hid hr
  obtain ⟨m, hlm⟩ : ∃ m, L.length = m := ⟨_, rfl⟩
  have HL := Lib.hid hlm
  rw [hlm] at HR hm ⊢
  clear hr hlm
  go_enter Tryz.func80, Tryz.ntmps80
  go_wp2_with fail
  have BX := (RD.box w ⟨room, L, down, armed, steps⟩ (.slice a m c)).below ((Below.refl _ _).alloc (Nat.le_refl _) (.cells #[.int .i64 0, .slice none 0 0, .bool false, .int .i64 0, .int .u64 0] 29))
  have BZ := RD.zero (w.alloc (.cells #[.int .i64 room, .slice a m c, .bool down, .int .i64 armed, .int .u64 steps] 29))
  have hsz : (w.alloc (.cells #[.int .i64 room, .slice a m c, .bool down, .int .i64 armed, .int .u64 steps] 29)).heap.size = w.heap.size + 1 := by simp
  simp only at BX
  rw [hsz] at BZ
  have B1 : Hid (Below w.heap.size w ((w.alloc (.cells #[.int .i64 room, .slice a m c, .bool down, .int .i64 armed, .int .u64 steps] 29)).alloc (.cells #[.int .i64 0, .slice none 0 0, .bool false, .int .i64 0, .int .u64 0] 29))) := Lib.hid (((Below.refl _ _).alloc (Nat.le_refl _) _).alloc (by simp) _)
  clear hsz
  generalize World.alloc (World.alloc w _) _ = w1 at *
  have BX1 := Lib.hid BX
  have BZ1 := Lib.hid BZ
  have LZ := BZ.lt
  clear BX BZ
  go_loopw [5, 6] (fun lv i wr => ∃ j : Nat, i = .int .i64 j ∧ j ≤ m ∧ OwnR wr w1.heap.size 96 3 lv ((delFile n (L.take j)).map rfV) ∧ Below w1.heap.size w1 wr) (fun _ i _ => m - (intOf i).toNat)
  case atStart => exact ⟨0, rfl, by omega, OwnR.nil _ _ _ _, Below.refl _ _⟩
  case round =>
    obtain ⟨j, rfl, hj, hown, hb⟩ := hrel
    have OW := Lib.hid hown
    have BR := Lib.hid hb
    have BXR := Lib.hid (BX1.out.below hb)
    have BZR := Lib.hid (BZ1.out.below hb)
    have LW := hb.size
    obtain ⟨la, lc, rfl⟩ := hown.shape
    obtain ⟨ln, hln⟩ : ∃ ln, (List.map rfV (delFile n (L.take j))).length = ln := ⟨_, rfl⟩
    have HLN := Lib.hid hln
    have HLS : Hid (ln ≤ 4294967296) := Lib.hid (by rw [← hln, List.length_map]; have h1 := length_del n (L.take j); have h2 := List.length_take_le j L; omega)
    rw [hln] at OW ⊢
    clear hown hb hln
    obtain ⟨r0, r1, r2, r3, r4, f0, f1, f2, f3, f4⟩ := BXR.out
    have hlw := BXR.out.lt
    by_cases hlt : j < m
    · obtain ⟨f, hf, _⟩ := getAt (l := L) (j := j) (by rw [HL.out]; exact hlt)
      obtain ⟨b, o, rfl, hbl, c0, c1, c2⟩ := (HR.out.below (B1.out.trans (BR.out.mono B1.out.size))).file hf
      have HF := Lib.hid hf
      clear hf
      by_cases hn : f.name = n
      · have hb : (f.name.toList == n.toList) = true := by rw [str_eq]; exact decide_eq_true hn
        have HNN := Lib.hid hn
        clear hn
        go_wp2_with fail
        go_roundw
        case rel => exact ⟨j + 1, by first | rfl | go_num, by omega, by rw [del_take_yes HF.out HNN.out]; exact OW.out, BR.out⟩
        all_goals (show m - ((j : Int) + 1).toNat < m - ((j : Int)).toNat; omega)
      · have hb : (f.name.toList == n.toList) = false := by rw [str_eq]; exact decide_eq_false hn
        have HNN := Lib.hid hn
        clear hn
        have HOA : Hid (OwnR (wr.alloc (.cells #[.string f.name, .string (strN f.all), .int .i64 f.kept] 96)) w1.heap.size 96 3 (.slice la ln lc) ((delFile n (L.take j)).map rfV)) := Lib.hid (OW.out.alloc _)
        have HCE := Lib.hid (rfV_cells wr f)
        have HBS : Hid (w1.heap.size ≤ (wr.alloc (.cells #[.string f.name, .string (strN f.all), .int .i64 f.kept] 96)).heap.size) := Lib.hid (by simp; omega)
        have HLE : Hid ((List.map rfV (delFile n (L.take j))).length ≤ 4294967296) := Lib.hid (by rw [HLN.out]; exact HLS.out)
        go_wp2_with (at_builtin; refine wpList_append_row rfile3 _ _ rfl w1.heap.size _ _ _ _ rfl rfl HOA.out (rfV_len f) HCE.out (rfV_one f) HLE.out HBS.out rfl ?_; intro v2 w2 ho2 hg2 hat2 hb2; have O2 := Lib.hid ho2; have B2 := Lib.hid hb2; clear ho2 hg2 hat2 hb2)
        go_roundw
        case rel => exact ⟨j + 1, by first | rfl | go_num, by omega, by rw [del_take_no HF.out HNN.out, List.map_append]; exact O2.out, (BR.out.alloc LW _).trans B2.out⟩
        all_goals (show m - ((j : Int) + 1).toNat < m - ((j : Int)).toNat; omega)
    · obtain rfl : j = m := by omega
      obtain ⟨z0, z1, z2, z3, z4, g0, g1, g2, g3, g4⟩ := BZR.out
      have hlz := BZR.out.lt
      go_wp2_with fail
      have RF := Lib.hid ((BZR.out.kept (Kept.setCell wr ⟨w.heap.size, 1, none⟩ (.slice la ln lc)) (by simp only; omega)).set ⟨room, [], down, armed, steps⟩ (.slice la ln lc))
      have KF := (Kept.setCell wr ⟨w.heap.size, 1, none⟩ (.slice la ln lc)).andThen (Kept.set5D (wr.setCell ⟨w.heap.size, 1, none⟩ (.slice la ln lc)) (w.heap.size + 1) ⟨room, [], down, armed, steps⟩ (.slice la ln lc)) (U := fun k => w.heap.size ≤ k ∧ k < w1.heap.size) (fun k h1 h2 => by simp only at h2; omega)
      have OF := Lib.hid (OW.out.kept KF (fun g hg h => by have := (OW.out.lt g hg).1; omega))
      have BF := Lib.hid ((B1.out.trans (BR.out.mono B1.out.size)).trans (KF.below (by have := B1.out.size; have := BR.out.size; omega) (fun k h => h.1)))
      unfold set5D at RF OF BF
      clear KF
      generalize World.setCell _ _ _ = wF at *
      clear r0 r1 r2 r3 r4 f0 f1 f2 f3 f4 z0 z1 z2 z3 z4 g0 g1 g2 g3 g4
      obtain ⟨q0, q1, q2, q3, q4, _⟩ := RF.out
      simp only at q0 q1 q2 q3 q4
      have HLL : (delFile n L).length = ln := by have h := HLN.out; rw [List.length_map, List.take_of_length_le (by rw [HL.out]; exact Nat.le_refl _)] at h; exact h
      refine bodyPost_ret (v := .agg #[.int .i64 room, .slice la ln lc, .bool down, .int .i64 armed, .int .u64 steps]) (by simp [results, Tryz.results80, go_sem, q0, q1, q2, q3, q4]) rfl ?_
      unfold RNew
      simp only
      rw [HLL]
      refine ⟨la, lc, rfl, ?_, fun g hg => by have := (OF.out.lt g hg).1; have := B1.out.size; omega, BF.out⟩
      have h := SRow.of_own OF.out
      rw [List.take_of_length_le (by rw [HL.out]; exact Nat.le_refl _)] at h
      exact h
/-- Block b is a file. -/
structure RF (w : World) (b : Nat) (f : FileS) : Prop where
  c0 : w.cell? ⟨b, 0, none⟩ = some (.string f.name)
  c1 : w.cell? ⟨b, 1, none⟩ = some (.string (strN f.all))
  c2 : w.cell? ⟨b, 2, none⟩ = some (.int .i64 f.kept)
  f0 : w.frozen? ⟨b, 0, none⟩ = false
  f1 : w.frozen? ⟨b, 1, none⟩ = false
  f2 : w.frozen? ⟨b, 2, none⟩ = false
theorem RF.lt {w : World} {b : Nat} {f : FileS} (h : RF w b f) : b < w.heap.size := World.block_lt_of_cell? _ _ h.c0
theorem RF.kept {w w' : World} {b : Nat} {f : FileS} {S : Nat → Prop} (h : RF w b f) (hk : Kept w w' S) (hs : ¬ S b) : RF w' b f :=
  ⟨hk.cell h.c0 hs, hk.cell h.c1 hs, hk.cell h.c2 hs, (hk.frozen (a := ⟨b, 0, none⟩) h.lt hs).trans h.f0, (hk.frozen (a := ⟨b, 1, none⟩) h.lt hs).trans h.f1, (hk.frozen (a := ⟨b, 2, none⟩) h.lt hs).trans h.f2⟩
theorem RF.below {w w' : World} {b : Nat} {f : FileS} (h : RF w b f) (hb : Below w.heap.size w w') : RF w' b f := h.kept (Kept.of_below hb (S := fun _ => False) fun k h1 h2 => by omega) (fun h => h)
theorem RF.box (w : World) (f : FileS) : RF (w.alloc (.cells #[.string f.name, .string (strN f.all), .int .i64 f.kept] 96)) w.heap.size f := ⟨by go_cell, by go_cell, by go_cell, by simp, by simp, by simp⟩
end Go.Proofs.YtofhccpagnkalaaGreat

/- The law's Tears, and what the document's crash leaves of loose bytes; contracts; no conditions but the ranges. -/
namespace Go.Proofs.YtofhccpagnkalaaGreat
open Go.RowKit Go.Maps Go.Proofs.Own

theorem rtear2 : RowSlice Tryz.prog 123 175 2 8 := by
  obtain ⟨i0, hi, hz0, hz1, hz2⟩ := info_parts (show (Tryz.prog.info? 175).map (fun i => (i.zero, i.size, i.bytes)) = some (some (.agg #[.int .u16 0, .int .u32 0]), 2, 8) by kernel_rfl)
  exact ⟨Tryz.underlying123, ⟨i0, _, hi, hz0, hz1, hz2, rfl⟩, by decide, by decide⟩
theorem tearV_len (t : Nat × Nat) : (tearV t).length = 2 := rfl
theorem tearV_one (t : Nat × Nat) : ∀ u ∈ tearV t, u.oneCell' = true := by
  intro u hu
  simp only [tearV, List.mem_cons, List.not_mem_nil, or_false] at hu
  rcases hu with rfl | rfl <;> rfl
theorem tearV_cells (w : World) (t : Nat × Nat) : ∀ j u, (tearV t)[j]? = some u → (w.alloc (.cells #[.int .u16 (t.1 : Nat), .int .u32 (t.2 : Nat)] 175)).cell? ⟨w.heap.size, j, none⟩ = some u := by
  intro j u hu
  match j, hu with
  | 0, hu => obtain rfl : Value.int .u16 (t.1 : Nat) = u := Option.some.inj hu; go_cell
  | 1, hu => obtain rfl : Value.int .u32 (t.2 : Nat) = u := Option.some.inj hu; go_cell
/-- The cells of a tear among the tears. -/
theorem TearsIs.at {w : World} {a : Option Addr} {n c : Nat} {ts : List (Nat × Nat)} (h : TearsIs w (.slice a n c) ts) {j : Nat} {t : Nat × Nat} (hj : ts[j]? = some t) :
    ∃ b o, a = some ⟨b, o, none⟩ ∧ b < w.heap.size ∧ w.cell? ⟨b, o + j * 2, none⟩ = some (.int .u16 (t.1 : Nat)) ∧ w.cell? ⟨b, o + j * 2 + 1, none⟩ = some (.int .u32 (t.2 : Nat)) := by
  obtain ⟨hl, he⟩ := List.getElem?_eq_some_iff.1 hj
  obtain ⟨b, o, h1, h2, h3⟩ := h.1.at (j := j) (by rw [List.length_map]; exact hl)
  rw [List.getElem_map, he] at h3
  exact ⟨b, o, h1, h2, by have := h3 0 _ rfl; rwa [Nat.add_zero] at this, h3 1 _ rfl⟩

set_option maxHeartbeats 2000000 in
set_option maxRecDepth 20000 in
theorem ltears_any (v : Value) (ts : List (Nat × Nat)) (w : World) (h : TearsIs w v ts) (hm : ts.length ≤ 1000) :
    Calls Tryz.prog 61 #[v] w fun e w' => ∃ v', e = .returned v' ∧ TearsIs w' v' ts ∧ Below w.heap.size w w' := by
  obtain ⟨a, c, rfl, _⟩ := h.1.shape
  have HT := Lib.hid h
  rw [List.length_map] at HT ⊢
  obtain ⟨m, hlm⟩ : ∃ m, ts.length = m := ⟨_, rfl⟩
  have HM := Lib.hid hlm
  rw [hlm] at HT hm ⊢
  clear h hlm
  go_enter Tryz.func61, Tryz.ntmps61
  go_wp2_with fail
  go_loopw [3, 8] (fun lv y wr => ∃ j : Nat, j ≤ m ∧ y = .int .i64 j ∧ OwnR wr w.heap.size 175 2 lv ((ts.take j).map tearV) ∧ Below w.heap.size w wr) (fun _ y _ => m - (intOf y).toNat)
  case atStart => exact ⟨0, Nat.zero_le _, rfl, OwnR.nil _ _ _ _, Below.refl _ _⟩
  case round =>
    obtain ⟨j, hj, rfl, ho, hb⟩ := hrel
    obtain ⟨la, lc, rfl⟩ := ho.shape
    have hlen : ((ts.take j).map tearV).length = j := by rw [List.length_map, List.length_take]; have := HM.out; omega
    have OW := Lib.hid ho
    have BR := Lib.hid hb
    rw [hlen] at OW ⊢
    clear ho hb
    by_cases hlt : j < m
    · obtain ⟨t, hf, _⟩ := getAt (l := ts) (j := j) (by rw [HM.out]; exact hlt)
      obtain ⟨b, o, rfl, hbl, c0, c1⟩ := (HT.out.below BR.out).at hf
      have HX : Hid (ts.take (j + 1) = ts.take j ++ [t]) := Lib.hid (by rw [List.take_add_one, hf]; rfl)
      have HOA : Hid (OwnR ((wr.alloc (.cells #[.int .u16 (t.1 : Nat), .int .u32 (t.2 : Nat)] 169)).alloc (.cells #[.int .u16 (t.1 : Nat), .int .u32 (t.2 : Nat)] 175)) w.heap.size 175 2 (.slice la j lc) ((ts.take j).map tearV)) := Lib.hid ((OW.out.alloc _).alloc _)
      have hce := tearV_cells (wr.alloc (.cells #[.int .u16 (t.1 : Nat), .int .u32 (t.2 : Nat)] 169)) t
      rw [World.size_alloc] at hce
      have HCE := Lib.hid hce
      have hsz := BR.out.size
      have HBS : Hid (w.heap.size ≤ ((wr.alloc (.cells #[.int .u16 (t.1 : Nat), .int .u32 (t.2 : Nat)] 169)).alloc (.cells #[.int .u16 (t.1 : Nat), .int .u32 (t.2 : Nat)] 175)).heap.size) := Lib.hid (by simp only [World.size_alloc]; omega)
      have HLE : Hid (((ts.take j).map tearV).length ≤ 4294967296) := Lib.hid (by omega)
      have j0 : (0 : Int) ≤ (j : Int) := by omega
      have j1 : (j : Int) < (m : Int) := by omega
      clear hf hlen hce
      go_wp2_with (at_builtin; refine wpList_append_row rtear2 _ _ rfl w.heap.size _ _ _ _ rfl rfl HOA.out (tearV_len t) HCE.out (tearV_one t) HLE.out HBS.out rfl ?_; intro v2 w2 ho2 hg2 hat2 hb2; have O2 := Lib.hid ho2; have B2 := Lib.hid hb2; clear ho2 hg2 hat2 hb2)
      go_roundw
      case rel => exact ⟨j + 1, by omega, by first | rfl | go_num, by rw [HX.out, List.map_append]; exact O2.out, ((BR.out.alloc hsz _).alloc (by simp only [World.size_alloc]; omega) _).trans B2.out⟩
      case measure => simp [intOf]; omega
    · obtain rfl : j = m := by omega
      have j1 : ¬ (j : Int) < (j : Int) := by omega
      go_wp2_with fail
      go_ret
      have HO := SRow.of_own OW.out
      rw [List.take_of_length_le (by rw [HM.out]; exact Nat.le_refl _)] at HO
      exact ⟨.slice la j lc, rfl, ⟨HO, HT.out.2⟩, BR.out⟩

theorem run_bytes_str2 {P : Program} (w : World) (src dst e : TypeId) (s : ByteArray) (hs : P.underlying src = some .string) (hd : P.underlying dst = some (.slice e)) (he : P.underlying e = some (.int .u8)) (hsz : s.size ≤ 2097152) :
    ∃ c w', (convert src dst (.string s)).run P w = .ok (.slice (some ⟨w.heap.size, 0, none⟩) s.size c) w' ∧ Bytes w' (.slice (some ⟨w.heap.size, 0, none⟩) s.size c) (natsOf s) ∧ Below w.heap.size w w' ∧ ∀ j, j < s.size → w'.frozen? ⟨w.heap.size, j, none⟩ = false := by
  obtain ⟨v, w', h1, h2, h3, _⟩ := run_bytes_str (P := P) w src dst e s hs hd he hsz
  have h4 := run_bytes_of_string w src dst e s hs hd he
  rw [h1] at h4
  simp only [Result.ok.injEq] at h4
  obtain ⟨rfl, rfl⟩ := h4
  refine ⟨_, _, h1, h2, h3, fun j hj => ?_⟩
  have hge := grownCap_ge w s.size 0 e
  generalize grownCap w s.size 0 e = c at hge
  have hb : (w.drew.alloc (.cells (bytesRow s c) e ((bytesRow s c).size, (bytesRow s c).size + 1))).heap[w.heap.size]? = some (.cells (bytesRow s c) e ((bytesRow s c).size, (bytesRow s c).size + 1)) := heap_alloc_new w.drew _
  have hl : j < (bytesRow s c).size := by unfold bytesRow; rw [Array.size_append, Array.size_map]; have : s.size = s.data.size := rfl; omega
  simp only [World.frozen?]
  rw [hb]
  simp only [Bool.and_eq_false_iff, decide_eq_false_iff_not]
  left
  omega
section
variable {P : Program} {ops : Array Oper} {rest : List Oper} {o : Oper} {a : Act} {Q : Exit → Act → World → Prop} {w : World}
theorem wpList_to_bytes2 (hg : o.guard = none) (src dst e : TypeId) (x : Operand) (hop : o.op = Op.convert src dst x) (hs : P.underlying src = some .string) (hd : P.underlying dst = some (.slice e)) (he : P.underlying e = some (.int .u8))
    (s : ByteArray) (hx : a.eval x = .string s) (hsz : s.size ≤ 2097152)
    (hK : ∀ c w', Bytes w' (.slice (some ⟨w.heap.size, 0, none⟩) s.size c) (natsOf s) → Below w.heap.size w w' → (∀ j, j < s.size → w'.frozen? ⟨w.heap.size, j, none⟩ = false) → wpList P ops Q rest (a.put o.dst (.slice (some ⟨w.heap.size, 0, none⟩) s.size c)) w') : wpList P ops Q (o :: rest) a w := by
  refine wpList_plain hg fun K' hK' => ?_
  obtain ⟨c, w', hrun, h1, h2, h3⟩ := run_bytes_str2 (P := P) w src dst e s hs hd he hsz
  unfold Oper.wp
  simp [execOp, hop, hx, hrun, Result.andThen]
  exact hK' _ _ (hK c w' h1 h2 h3)
end
/-- A byte is stored into a row of bytes. -/
theorem Bytes.store {w : World} {g n c : Nat} {L : List Nat} (h : Bytes w (.slice (some ⟨g, 0, none⟩) n c) L) {j y : Nat} (hj : j < L.length) (hy : y < 256) : Bytes (w.setCell ⟨g, j, none⟩ (.int .u8 (y : Nat))) (.slice (some ⟨g, 0, none⟩) n c) (L.set j y) := by
  obtain ⟨⟨a', c', e, hc⟩, ⟨a2, c2, e2, hr⟩, hlt, hsm⟩ := h
  cases e
  simp only [Value.slice.injEq] at e2
  obtain ⟨rfl, -, rfl⟩ := e2
  have hcell : ∀ i (hi : i < L.length), w.cell? ⟨g, i, none⟩ = some (.int .u8 (L[i] : Nat)) := fun i hi => by
    obtain ⟨b, o, e, h2⟩ := hr i (by rw [length_ints]; exact hi)
    cases e
    rw [Nat.zero_add, ints_at] at h2
    exact h2
  refine ⟨⟨_, _, by rw [List.length_set], by rw [List.length_set]; exact hc⟩, ⟨_, c, by rw [length_ints, List.length_set], fun i hi => ⟨g, 0, rfl, ?_⟩⟩, ?_, by rw [List.length_set]; exact hsm⟩
  · have hi' : i < L.length := by rw [length_ints, List.length_set] at hi; exact hi
    rw [Nat.zero_add, ints_at]
    by_cases e : j = i
    · subst e
      rw [World.cell?_setCell_same _ _ _ (hcell j hj)]
      simp
    · rw [World.cell?_setCell_other _ _ _ _ (by intro h; injection h with h1 h2; omega), hcell i hi']
      rw [List.getElem_set_ne e]
  · intro x hx
    rcases List.mem_or_eq_of_mem_set hx with hx | rfl
    · exact hlt x hx
    · exact hy
theorem Bytes.at0 {w : World} {g n c : Nat} {L : List Nat} (h : Bytes w (.slice (some ⟨g, 0, none⟩) n c) L) {j : Nat} (hj : j < L.length) : w.cell? ⟨g, j, none⟩ = some (.int .u8 (L[j] : Nat)) := by
  obtain ⟨_, ⟨a2, c2, e2, hr⟩, _, _⟩ := h
  simp only [Value.slice.injEq] at e2
  obtain ⟨rfl, -, rfl⟩ := e2
  obtain ⟨b, o, e, h2⟩ := hr j (by rw [length_ints]; exact hj)
  cases e
  rw [Nat.zero_add, ints_at] at h2
  exact h2
/-- What holds between the three turns. -/
structure TornI (w wr : World) (g n c : Nat) (b : List Nat) (t1 t2 i : Nat) : Prop where
  by' : Bytes wr (.slice (some ⟨g, 0, none⟩) n c) (tornTo b t2 i)
  fr : ∀ j, j < n → wr.frozen? ⟨g, j, none⟩ = false
  bx : wr.cell? ⟨w.heap.size, 1, none⟩ = some (.int .u32 (t2 : Nat))
  lo : w.heap.size < g
  be : Below w.heap.size w wr
theorem TornI.next {w wr : World} {g n c : Nat} {b : List Nat} {t1 t2 i q : Nat} (h : TornI w wr g n c b t1 t2 i) (hn : b.length = n) (hq : n = q + 3) (hi : i < 3) {x : Nat} (hx : (tornTo b t2 i).getD (q + i) 0 = x) (hx8 : x < 256) :
    TornI w (wr.setCell ⟨g, q + i, none⟩ (.int .u8 ((x ^^^ (t2 / 2 ^ (16 - 8 * i) % 256) : Nat) : Int))) g n c b t1 t2 (i + 1) := by
  refine ⟨?_, fun j hj => by rw [World.frozen?_setCell]; exact h.fr j hj, ?_, h.lo, h.be.setCell (show w.heap.size ≤ g from Nat.le_of_lt h.lo) _⟩
  · have h1 := h.by'.store (j := q + i) (y := x ^^^ (t2 / 2 ^ (16 - 8 * i) % 256)) (by rw [length_tornTo]; omega) (Nat.xor_lt_two_pow (n := 8) hx8 (Nat.mod_lt _ (by decide)))
    have e : tornTo b t2 (i + 1) = (tornTo b t2 i).set (q + i) (x ^^^ (t2 / 2 ^ (16 - 8 * i) % 256)) := by
      show (tornTo b t2 i).set (b.length - 3 + i) ((tornTo b t2 i).getD (b.length - 3 + i) 0 ^^^ _) = _
      rw [show b.length - 3 + i = q + i by omega, hx]
    rw [e]
    exact h1
  · rw [World.cell?_setCell_other _ _ _ _ (by intro e; injection e with e1; have := h.lo; omega)]
    exact h.bx
theorem TornI.drew {w wr : World} {g n c : Nat} {b : List Nat} {t1 t2 i : Nat} (h : TornI w wr g n c b t1 t2 i) : TornI w wr.drew g n c b t1 t2 i := ⟨h.by'.below ((Below.refl _ _).drew), h.fr, h.bx, h.lo, h.be.drew⟩
theorem TornI.at {w wr : World} {g n c : Nat} {b : List Nat} {t1 t2 i : Nat} (h : TornI w wr g n c b t1 t2 i) (hn : b.length = n) {q : Nat} (hq : q < n) : ∃ x : Nat, (tornTo b t2 i).getD q 0 = x ∧ x < 256 ∧ wr.cell? ⟨g, q, none⟩ = some (.int .u8 (x : Nat)) := by
  have hl : q < (tornTo b t2 i).length := by rw [length_tornTo]; omega
  refine ⟨(tornTo b t2 i)[q], ?_, h.by'.lt _ (List.getElem_mem hl), h.by'.at0 hl⟩
  rw [List.getD_eq_getElem?_getD, List.getElem?_eq_getElem hl]
  rfl

set_option maxHeartbeats 2000000 in
set_option maxRecDepth 20000 in
theorem rtorn_any (l : List Nat) (t : Nat × Nat) (w : World) (h8 : ∀ c ∈ l, c < 256) (hls : l.length ≤ 2097152) (h1 : t.1 < 65536) (h2 : t.2 < 4294967296) :
    Calls Tryz.prog 103 #[.string (strN l), .agg #[.int .u16 (t.1 : Nat), .int .u32 (t.2 : Nat)]] w fun e w' => e = .returned (.string (strN (tornL l t))) ∧ Below w.heap.size w w' := by
  have hlt : t.1 % (l.length + 1) ≤ l.length := Nat.le_of_lt_succ (Nat.mod_lt _ (by omega))
  obtain ⟨t1, t2⟩ := t
  simp only at h1 h2 hlt ⊢
  have HM : Hid ((t1 : Int) % ((l.length : Int) + 1) = ((t1 % (l.length + 1) : Nat) : Int)) := Lib.hid (by rw [Int.natCast_emod, Int.natCast_add]; rfl)
  have HTL : Hid (tornL l (t1, t2) = if 3 ≤ (l.take (t1 % (l.length + 1))).length then tornTo (l.take (t1 % (l.length + 1))) t2 3 else l.take (t1 % (l.length + 1))) := Lib.hid rfl
  have hex := strN_take l (t1 % (l.length + 1))
  have h8b : ∀ c ∈ l.take (t1 % (l.length + 1)), c < 256 := fun c hc => h8 c (List.mem_of_mem_take hc)
  have hbl : (l.take (t1 % (l.length + 1))).length ≤ 2097152 := by rw [List.length_take]; omega
  generalize l.take (t1 % (l.length + 1)) = b at hex HTL h8b hbl
  generalize hm : t1 % (l.length + 1) = m at HM hex hlt
  have hm' := HM.out
  have hss := size_strN l
  have hl' : (l.length : Int) ≤ 2097152 := by omega
  have ht' : (t1 : Int) < 65536 := by omega
  have hk0 : ¬ (m : Int) < 0 := by omega
  have hm0 : (m : Int) ≤ (l.length : Int) := by omega
  have hk2 : ¬ (l.length : Int) < (m : Int) := by omega
  have hk3 : m ≤ l.length := by omega
  have HSZ : Hid ((strN b).size ≤ 2097152) := Lib.hid (by rw [size_strN]; exact hbl)
  have HTB : Hid (natsOf (strN b) = b) := Lib.hid (natsOf_strN h8b)
  have HSB : Hid ((strN b).size = b.length) := Lib.hid (size_strN b)
  have HT2 : Hid (t2 < 4294967296) := Lib.hid h2
  clear hm h8 h8b hlt
  go_enter Tryz.func103, Tryz.ntmps103
  have BX : Hid (Below w.heap.size w (w.alloc (.cells #[.int .u16 (t1 : Nat), .int .u32 (t2 : Nat)] 175))) := Lib.hid ((Below.refl _ _).alloc (Nat.le_refl _) _)
  have CX : Hid ((w.alloc (.cells #[.int .u16 (t1 : Nat), .int .u32 (t2 : Nat)] 175)).cell? ⟨w.heap.size, 1, none⟩ = some (.int .u32 (t2 : Nat))) := Lib.hid (by go_cell)
  have SX : Hid ((w.alloc (.cells #[.int .u16 (t1 : Nat), .int .u32 (t2 : Nat)] 175)).heap.size = w.heap.size + 1) := Lib.hid (by simp)
  by_cases h3 : 3 ≤ b.length
  · have HTL2 : Hid (tornL l (t1, t2) = tornTo b t2 3) := Lib.hid (by rw [HTL.out, if_pos h3])
    obtain ⟨n, hn⟩ : ∃ n, b.length = n := ⟨_, rfl⟩
    have HNB := Lib.hid hn
    have hn3 : (3 : Int) ≤ (n : Int) := by omega
    have hnm : (n : Int) ≤ 2097152 := by omega
    go_wp2_with (refine wpList_to_bytes2 rfl 9 22 5 _ rfl Tryz.underlying9 Tryz.underlying22 Tryz.underlying5 _ rfl HSZ.out ?_; intro c2 w2 hB2 hb2 hf2; rw [HTB.out] at hB2; simp only [World.size_alloc] at hB2 hf2 ⊢; obtain ⟨g, hg⟩ : ∃ g, w.heap.size + 1 = g := ⟨_, rfl⟩; rw [hg] at hB2 hf2 ⊢; have HGG := Lib.hid hg; clear hg; rw [HSB.out, hn] at hB2 hf2 ⊢; have HB2 := Lib.hid hB2; have HBe2 := Lib.hid hb2; have HF2 := Lib.hid hf2; clear hB2 hb2 hf2)
    have B2 : Hid (Below w.heap.size w w2) := Lib.hid (BX.out.trans (HBe2.out.mono BX.out.size))
    have C2 : Hid (w2.cell? ⟨w.heap.size, 1, none⟩ = some (.int .u32 (t2 : Nat))) := Lib.hid (Below.at HBe2.out CX.out (by rw [SX.out]; simp))
    have HG : Hid (w.heap.size < g) := Lib.hid (by have := HGG.out; omega)
    generalize World.alloc w _ = w1 at *
    clear hm' hex hss hl' ht' hm0 hk0 hk2 hk3 h1 h2 hls HBe2 CX BX SX
    have I0 : Hid (TornI w w2 g n c2 b t1 t2 0) := Lib.hid ⟨HB2.out, fun j hj => HF2.out j hj, C2.out, HG.out, B2.out⟩
    obtain ⟨q, hq⟩ : ∃ q : Nat, n = q + 3 := ⟨n - 3, by omega⟩
    have HQ := Lib.hid hq
    have e0 : IntKind.i64.wrap (q : Int) = (q : Int) := by simp only [IntKind.wrap_i64]; omega
    have e1 : IntKind.i64.wrap ((q : Int) + 1) = ((q : Int) + 1) := by simp only [IntKind.wrap_i64]; omega
    have e2 : IntKind.i64.wrap ((q : Int) + 2) = ((q : Int) + 2) := by simp only [IntKind.wrap_i64]; omega
    have e3 : ((q : Int) + 1).toNat = q + 1 := by omega
    have e4 : ((q : Int) + 2).toNat = q + 2 := by omega
    have e5 : ((n : Int) - 3) = (q : Int) := by omega
    have e6 : ((n : Int) - 2) = (q : Int) + 1 := by omega
    have e7 : ((n : Int) - 1) = (q : Int) + 2 := by omega
    clear hbl hn h3 hq HB2 HF2 C2 B2
    obtain ⟨x, hx, hxl, hcy⟩ := I0.out.at HNB.out (q := q) (by have := HQ.out; omega)
    have HNX : Hid (TornI w ((w2).setCell ⟨g, q, none⟩ (.int .u8 ((x ^^^ (t2 / 65536 % 256) : Nat) : Int))) g n c2 b t1 t2 1) := Lib.hid (by
      have h := I0.out.next (i := 0) HNB.out HQ.out (by decide) hx hxl
      simpa using h)
    have HNY : Hid (TornI w ((w2).drew.setCell ⟨g, q, none⟩ (.int .u8 ((x ^^^ (t2 / 65536 % 256) : Nat) : Int))) g n c2 b t1 t2 1) := Lib.hid (by
      have h := I0.out.drew.next (i := 0) HNB.out HQ.out (by decide) hx hxl
      simpa using h)
    have XR : Hid (w2.cell? ⟨g, q, none⟩ = some (.int .u8 (x : Nat)) ∧ w2.cell? ⟨w.heap.size, 1, none⟩ = some (.int .u32 (t2 : Nat))) := Lib.hid ⟨hcy, I0.out.bx⟩
    have FR : Hid (w2.frozen? ⟨g, q, none⟩ = false) := Lib.hid (I0.out.fr _ (by have := HQ.out; omega))
    have hX : bits BinOp.xor .u8 (x : Int) ((t2 : Int) / 65536 % 256) = ((x ^^^ (t2 / 65536 % 256) : Nat) : Int) := by
      rw [← xor8 x (t2 / 65536 % 256) hxl (Nat.mod_lt _ (by decide))]
      rfl
    have i0 : (0 : Int) ≤ (q : Int) := by omega
    have i1 : (q : Int) < (n : Int) := by have := HQ.out; omega
    clear hcy hx hxl
    go_wp2_with fail
    refine region_start [0, 0, 2, 0, 0, 16, 56, 120, 0, 256, 768, 1792, 4088, 8191, 16383] 0 (fun w' => w'.cell? ⟨g, q, none⟩ = some (.int .u8 (x : Nat)) ∧ w'.cell? ⟨w.heap.size, 1, none⟩ = some (.int .u32 (t2 : Nat))) (by kernel_rfl) ?_
    refine stage_heads [0, 1, 2, 3, 4, 5, 6, 7, 8, 9, 10, 11, 12, 13] (by kernel_rfl) (L := #[true, true, true, true, true, true, true, true, true, true, true, true, true, true, false]) (by kernel_rfl) (f' := 1) rfl (fun _ _ _ _ h => h) (fun w o h => ((Stable.cell _ _).and (Stable.cell _ _)).alloc h o) (.inr XR.out) ?_
    simp only [List.flatMap_cons, List.flatMap_nil, List.drop_succ_cons, List.drop_zero, List.take_succ_cons, List.take_zero, List.cons_append, List.nil_append, List.append_nil]
    iterate 14 (first | (refine heads_load _ (by rfl) (fun w' hs => by obtain ⟨y0, y1⟩ := hs; go_simp; try with_reducible rfl) rfl ?_; simp only [Act.put, List.setIfInBounds_toArray, List.set_cons_zero, List.set_cons_succ]) | (refine heads_pure _ (by rfl) (fun w' => by go_simp; try with_reducible rfl) ?_; simp only [Act.put, List.setIfInBounds_toArray, List.set_cons_zero, List.set_cons_succ]))
    refine heads_nil ?_
    refine stage_op 14 (by kernel_rfl) (L := #[true, true, true, true, true, true, true, true, true, true, true, true, true, true, true]) (by kernel_rfl) ?_
    simp only [List.drop_succ_cons, List.drop_zero, List.take_succ_cons, List.take_zero]
    have z0 := XR.out.1; have z1 := FR.out; go_wp2_with fail
    refine step_post nofun ?_
    refine stage_done (by kernel_rfl) ?_
    generalize hwz : World.drew _ = w3
    have I1 : Hid (TornI w w3 g n c2 b t1 t2 1) := Lib.hid (by subst hwz; rw [hX]; first | exact HNX.out.drew | exact HNY.out.drew)
    clear hX i0 i1 hwz
    obtain ⟨x, hx, hxl, hcy⟩ := I1.out.at HNB.out (q := q + 1) (by have := HQ.out; omega)
    have HNX : Hid (TornI w ((w3).setCell ⟨g, q + 1, none⟩ (.int .u8 ((x ^^^ (t2 / 256 % 256) : Nat) : Int))) g n c2 b t1 t2 2) := Lib.hid (by
      have h := I1.out.next (i := 1) HNB.out HQ.out (by decide) hx hxl
      simpa using h)
    have HNY : Hid (TornI w ((w3).drew.setCell ⟨g, q + 1, none⟩ (.int .u8 ((x ^^^ (t2 / 256 % 256) : Nat) : Int))) g n c2 b t1 t2 2) := Lib.hid (by
      have h := I1.out.drew.next (i := 1) HNB.out HQ.out (by decide) hx hxl
      simpa using h)
    have XR : Hid (w3.cell? ⟨g, q + 1, none⟩ = some (.int .u8 (x : Nat)) ∧ w3.cell? ⟨w.heap.size, 1, none⟩ = some (.int .u32 (t2 : Nat))) := Lib.hid ⟨hcy, I1.out.bx⟩
    have FR : Hid (w3.frozen? ⟨g, q + 1, none⟩ = false) := Lib.hid (I1.out.fr _ (by have := HQ.out; omega))
    have hX : bits BinOp.xor .u8 (x : Int) ((t2 : Int) / 256 % 256) = ((x ^^^ (t2 / 256 % 256) : Nat) : Int) := by
      rw [← xor8 x (t2 / 256 % 256) hxl (Nat.mod_lt _ (by decide))]
      rfl
    have i0 : (0 : Int) ≤ ((q : Int) + 1) := by omega
    have i1 : ((q : Int) + 1) < (n : Int) := by have := HQ.out; omega
    clear hcy hx hxl
    go_wp2_with fail
    refine region_start [0, 0, 2, 0, 0, 16, 56, 120, 0, 256, 768, 1792, 4088, 8191, 16383] 0 (fun w' => w'.cell? ⟨g, q + 1, none⟩ = some (.int .u8 (x : Nat)) ∧ w'.cell? ⟨w.heap.size, 1, none⟩ = some (.int .u32 (t2 : Nat))) (by kernel_rfl) ?_
    refine stage_heads [0, 1, 2, 3, 4, 5, 6, 7, 8, 9, 10, 11, 12, 13] (by kernel_rfl) (L := #[true, true, true, true, true, true, true, true, true, true, true, true, true, true, false]) (by kernel_rfl) (f' := 1) rfl (fun _ _ _ _ h => h) (fun w o h => ((Stable.cell _ _).and (Stable.cell _ _)).alloc h o) (.inr XR.out) ?_
    simp only [List.flatMap_cons, List.flatMap_nil, List.drop_succ_cons, List.drop_zero, List.take_succ_cons, List.take_zero, List.cons_append, List.nil_append, List.append_nil]
    iterate 14 (first | (refine heads_load _ (by rfl) (fun w' hs => by obtain ⟨y0, y1⟩ := hs; go_simp; try with_reducible rfl) rfl ?_; simp only [Act.put, List.setIfInBounds_toArray, List.set_cons_zero, List.set_cons_succ]) | (refine heads_pure _ (by rfl) (fun w' => by go_simp; try with_reducible rfl) ?_; simp only [Act.put, List.setIfInBounds_toArray, List.set_cons_zero, List.set_cons_succ]))
    refine heads_nil ?_
    refine stage_op 14 (by kernel_rfl) (L := #[true, true, true, true, true, true, true, true, true, true, true, true, true, true, true]) (by kernel_rfl) ?_
    simp only [List.drop_succ_cons, List.drop_zero, List.take_succ_cons, List.take_zero]
    have z0 := XR.out.1; have z1 := FR.out; go_wp2_with fail
    refine step_post nofun ?_
    refine stage_done (by kernel_rfl) ?_
    generalize hwz : World.drew _ = w4
    have I2 : Hid (TornI w w4 g n c2 b t1 t2 2) := Lib.hid (by subst hwz; rw [hX]; first | exact HNX.out.drew | exact HNY.out.drew)
    clear hX i0 i1 hwz
    obtain ⟨x, hx, hxl, hcy⟩ := I2.out.at HNB.out (q := q + 2) (by have := HQ.out; omega)
    have HNX : Hid (TornI w ((w4).setCell ⟨g, q + 2, none⟩ (.int .u8 ((x ^^^ (t2 % 256) : Nat) : Int))) g n c2 b t1 t2 3) := Lib.hid (by
      have h := I2.out.next (i := 2) HNB.out HQ.out (by decide) hx hxl
      simpa using h)
    have HNY : Hid (TornI w ((w4).drew.setCell ⟨g, q + 2, none⟩ (.int .u8 ((x ^^^ (t2 % 256) : Nat) : Int))) g n c2 b t1 t2 3) := Lib.hid (by
      have h := I2.out.drew.next (i := 2) HNB.out HQ.out (by decide) hx hxl
      simpa using h)
    have XR : Hid (w4.cell? ⟨g, q + 2, none⟩ = some (.int .u8 (x : Nat)) ∧ w4.cell? ⟨w.heap.size, 1, none⟩ = some (.int .u32 (t2 : Nat))) := Lib.hid ⟨hcy, I2.out.bx⟩
    have FR : Hid (w4.frozen? ⟨g, q + 2, none⟩ = false) := Lib.hid (I2.out.fr _ (by have := HQ.out; omega))
    have hX : bits BinOp.xor .u8 (x : Int) ((t2 : Int) % 256) = ((x ^^^ (t2 % 256) : Nat) : Int) := by
      rw [← xor8 x (t2 % 256) hxl (Nat.mod_lt _ (by decide))]
      rfl
    have i0 : (0 : Int) ≤ ((q : Int) + 2) := by omega
    have i1 : ((q : Int) + 2) < (n : Int) := by have := HQ.out; omega
    clear hcy hx hxl
    go_wp2_with fail
    refine region_start [0, 0, 2, 0, 0, 16, 56, 120, 0, 256, 768, 2040, 4095, 8191] 0 (fun w' => w'.cell? ⟨g, q + 2, none⟩ = some (.int .u8 (x : Nat)) ∧ w'.cell? ⟨w.heap.size, 1, none⟩ = some (.int .u32 (t2 : Nat))) (by kernel_rfl) ?_
    refine stage_heads [0, 1, 2, 3, 4, 5, 6, 7, 8, 9, 10, 11, 12] (by kernel_rfl) (L := #[true, true, true, true, true, true, true, true, true, true, true, true, true, false]) (by kernel_rfl) (f' := 1) rfl (fun _ _ _ _ h => h) (fun w o h => ((Stable.cell _ _).and (Stable.cell _ _)).alloc h o) (.inr XR.out) ?_
    simp only [List.flatMap_cons, List.flatMap_nil, List.drop_succ_cons, List.drop_zero, List.take_succ_cons, List.take_zero, List.cons_append, List.nil_append, List.append_nil]
    iterate 13 (first | (refine heads_load _ (by rfl) (fun w' hs => by obtain ⟨y0, y1⟩ := hs; go_simp; try with_reducible rfl) rfl ?_; simp only [Act.put, List.setIfInBounds_toArray, List.set_cons_zero, List.set_cons_succ]) | (refine heads_pure _ (by rfl) (fun w' => by go_simp; try with_reducible rfl) ?_; simp only [Act.put, List.setIfInBounds_toArray, List.set_cons_zero, List.set_cons_succ]))
    refine heads_nil ?_
    refine stage_op 13 (by kernel_rfl) (L := #[true, true, true, true, true, true, true, true, true, true, true, true, true, true]) (by kernel_rfl) ?_
    simp only [List.drop_succ_cons, List.drop_zero, List.take_succ_cons, List.take_zero]
    have z0 := XR.out.1; have z1 := FR.out; go_wp2_with fail
    refine step_post nofun ?_
    refine stage_done (by kernel_rfl) ?_
    generalize hwz : World.drew _ = w5
    have I3 : Hid (TornI w w5 g n c2 b t1 t2 3) := Lib.hid (by subst hwz; rw [hX]; first | exact HNX.out.drew | exact HNY.out.drew)
    clear hX i0 i1 hwz
    have y3 := I3.out.by'.str Tryz.underlying22 Tryz.underlying5 Tryz.underlying9
    go_wp2_with fail
    go_ret
    exact ⟨by rw [HTL2.out]; rfl, I3.out.be⟩
  · have HTL2 : Hid (tornL l (t1, t2) = b) := Lib.hid (by rw [HTL.out, if_neg h3])
    have hn3 : ¬ (3 : Int) ≤ (b.length : Int) := by omega
    clear h3
    go_wp2_with (refine wpList_to_bytes2 rfl 9 22 5 _ rfl Tryz.underlying9 Tryz.underlying22 Tryz.underlying5 _ rfl HSZ.out ?_; intro c2 w2 hB2 hb2 hf2; rw [HTB.out] at hB2; simp only [World.size_alloc] at hB2 hf2 ⊢; obtain ⟨g, hg⟩ : ∃ g, w.heap.size + 1 = g := ⟨_, rfl⟩; rw [hg] at hB2 hf2 ⊢; have HGG := Lib.hid hg; clear hg; rw [HSB.out] at hB2 hf2 ⊢; have HB2 := Lib.hid hB2; have HBe2 := Lib.hid hb2; have HF2 := Lib.hid hf2; clear hB2 hb2 hf2; have y3 := HB2.out.str Tryz.underlying22 Tryz.underlying5 Tryz.underlying9)
    have B2 : Hid (Below w.heap.size w w2) := Lib.hid (BX.out.trans (HBe2.out.mono BX.out.size))
    have C2 : Hid (w2.cell? ⟨w.heap.size, 1, none⟩ = some (.int .u32 (t2 : Nat))) := Lib.hid (Below.at HBe2.out CX.out (by rw [SX.out]; simp))
    have HG : Hid (w.heap.size < g) := Lib.hid (by have := HGG.out; omega)
    generalize World.alloc w _ = w1 at *
    clear hm' hex hss hl' ht' hm0 hk0 hk2 hk3 h1 h2 hls HBe2 CX BX SX
    go_ret
    exact ⟨by rw [HTL2.out]; rfl, B2.out⟩
end Go.Proofs.YtofhccpagnkalaaGreat

/- The document's disk with a file; contract; no conditions but the ranges. -/
namespace Go.Proofs.YtofhccpagnkalaaGreat
open Go.RowKit Go.Maps Go.Proofs.Own

/-- An insertion before the k-th, as far as j. -/
def insS (f : FileS) (L : List FileS) (k j : Nat) : List FileS := if j ≤ k then L.take j else L.take k ++ f :: (L.drop k).take (j - k)
theorem insS_step {f g : FileS} {L : List FileS} {k j : Nat} (hg : L[j]? = some g) (hj : j ≠ k) : insS f L k (j + 1) = insS f L k j ++ [g] := by
  unfold insS
  by_cases h : j < k
  · rw [if_pos (by omega), if_pos (by omega), List.take_add_one, hg]; rfl
  · rw [if_neg (by omega), if_neg (by omega), List.append_assoc, List.cons_append]
    have e : (L.drop k).take (j + 1 - k) = (L.drop k).take (j - k) ++ [g] := by
      rw [show j + 1 - k = (j - k) + 1 by omega, List.take_add_one, List.getElem?_drop, show k + (j - k) = j by omega, hg]; rfl
    rw [e]
theorem insS_at {f g : FileS} {L : List FileS} {k : Nat} (hg : L[k]? = some g) : insS f L k (k + 1) = (insS f L k k ++ [f]) ++ [g] := by
  unfold insS
  rw [if_neg (by omega), if_pos (Nat.le_refl _), show k + 1 - k = 0 + 1 by omega, List.take_add_one, List.getElem?_drop, Nat.add_zero, hg]
  simp
theorem length_insS (f : FileS) (L : List FileS) (k j : Nat) : (insS f L k j).length ≤ L.length + 1 := by
  unfold insS
  split
  · have := List.length_take_le' j L; omega
  · rw [List.length_append, List.length_cons, List.length_take, List.length_take, List.length_drop]; omega
theorem ins_place (f : FileS) (L : List FileS) : ∃ k, k ≤ L.length ∧ (∀ j g, j < k → L[j]? = some g → nameLt f.name g.name = false) ∧ (∀ g, L[k]? = some g → nameLt f.name g.name = true) ∧ insFile f L = L.take k ++ f :: L.drop k := by
  obtain ⟨A, B, h1, h2, h3, h4⟩ := ins_split f L
  refine ⟨A.length, by rw [h1, List.length_append]; omega, fun j g hj hg => ?_, fun g hg => ?_, ?_⟩
  · rw [h1, List.getElem?_append_left hj] at hg
    exact h3 g (List.mem_of_getElem? hg)
  · rw [h1, List.getElem?_append_right (Nat.le_refl _), Nat.sub_self] at hg
    exact h4 g (by rw [List.head?_eq_getElem?]; exact hg)
  · rw [h2, h1, List.take_left, List.drop_left]
theorem SRow.off {w w' : World} {sz : Nat} {a : Option Addr} {n c : Nat} {rs : List (List Value)} {S : Nat → Prop} {B : Nat} (h : SRow w sz (.slice a n c) rs) (hk : Kept w w' S) (hB : ∀ g, (Value.slice a n c).ownBlock = some g → B ≤ g) (hS : ∀ k, S k → k < B) : SRow w' sz (.slice a n c) rs :=
  h.kept hk (.inr fun g hg hs => by have := hB g hg; have := hS g hs; omega)

set_option maxHeartbeats 8000000 in
set_option maxRecDepth 20000 in
theorem rwith_any (a : Option Addr) (c : Nat) (D : DiskS) (f : FileS) (w : World) (hr : SRow w 3 (.slice a D.files.length c) (D.files.map rfV)) (hm : D.files.length ≤ 1000) : Calls Tryz.prog 40 #[.agg #[.int .i64 D.room, .slice a D.files.length c, .bool D.down, .int .i64 D.armed, .int .u64 D.steps], .agg #[.string f.name, .string (strN f.all), .int .i64 f.kept]] w (RNew { D with files := putFile f D.files } w) := by
  obtain ⟨room, L, down, armed, steps⟩ := D
  simp only at hr hm ⊢
  have HR := Lib.hid hr
  have HM := Lib.hid hm
  obtain ⟨m0, hlm⟩ : ∃ m, L.length = m := ⟨_, rfl⟩
  have HL := Lib.hid hlm
  rw [hlm] at HR ⊢
  clear hr hlm hm
  go_enter Tryz.func40, Tryz.ntmps40
  go_wp2_with fail
  have hX1 : (w.alloc (.cells #[.int .i64 room, .slice a m0 c, .bool down, .int .i64 armed, .int .u64 steps] 29)).heap.size = w.heap.size + 1 := by simp
  have hX2 : ((w.alloc (.cells #[.int .i64 room, .slice a m0 c, .bool down, .int .i64 armed, .int .u64 steps] 29)).alloc (.cells #[.string f.name, .string (strN f.all), .int .i64 f.kept] 96)).heap.size = w.heap.size + 1 + 1 := by simp
  have BX := ((RD.box w ⟨room, L, down, armed, steps⟩ (.slice a m0 c)).below ((Below.refl _ _).alloc (Nat.le_refl _) (.cells #[.string f.name, .string (strN f.all), .int .i64 f.kept] 96))).below ((Below.refl _ _).alloc (Nat.le_refl _) (.cells #[.int .i64 0, .slice none 0 0, .bool false, .int .i64 0, .int .u64 0] 29))
  have FB := (RF.box (w.alloc (.cells #[.int .i64 room, .slice a m0 c, .bool down, .int .i64 armed, .int .u64 steps] 29)) f).below ((Below.refl _ _).alloc (Nat.le_refl _) (.cells #[.int .i64 0, .slice none 0 0, .bool false, .int .i64 0, .int .u64 0] 29))
  have BZ := RD.zero ((w.alloc (.cells #[.int .i64 room, .slice a m0 c, .bool down, .int .i64 armed, .int .u64 steps] 29)).alloc (.cells #[.string f.name, .string (strN f.all), .int .i64 f.kept] 96))
  simp only at BX
  rw [hX1] at FB
  rw [hX2] at BZ
  have B1 : Hid (Below w.heap.size w (((w.alloc (.cells #[.int .i64 room, .slice a m0 c, .bool down, .int .i64 armed, .int .u64 steps] 29)).alloc (.cells #[.string f.name, .string (strN f.all), .int .i64 f.kept] 96)).alloc (.cells #[.int .i64 0, .slice none 0 0, .bool false, .int .i64 0, .int .u64 0] 29))) := Lib.hid ((((Below.refl _ _).alloc (Nat.le_refl _) _).alloc (by simp) _).alloc (by simp; omega) _)
  clear hX1 hX2
  generalize World.alloc (World.alloc (World.alloc w _) _) _ = w1 at *
  have BX1 := Lib.hid BX
  have FB1 := Lib.hid FB
  have BZ1 := Lib.hid BZ
  have LZ := BZ.lt
  clear BX FB BZ
  refine (rwithout_any _ ⟨room, L, down, armed, steps⟩ f.name w1 ⟨a, c, by simp only; rw [HL.out], by simp only; rw [HL.out]; exact HR.out.below B1.out⟩ HM.out).mono ?_
  rintro e wz ⟨a1, c1, rfl, hs1, hn1, hb1⟩
  simp only at hs1 hn1 ⊢
  have BXz := Lib.hid (BX1.out.below hb1)
  have FBz := Lib.hid (FB1.out.below hb1)
  have BZz := Lib.hid (BZ1.out.below hb1)
  have LLL := length_del f.name L
  generalize hL1 : delFile f.name L = L1 at *
  obtain ⟨m, hlm⟩ : ∃ m, L1.length = m := ⟨_, rfl⟩
  have HL1 := Lib.hid hlm
  have HPUT : Hid (putFile f L = insFile f L1) := Lib.hid (by unfold putFile; rw [hL1])
  rw [hlm] at hs1 hn1 LLL ⊢
  have HMM : Hid (m ≤ 1000) := Lib.hid (Nat.le_trans LLL HM.out)
  have SZ := Lib.hid hs1
  have NZ := Lib.hid hn1
  have Bz : Hid (Below w.heap.size w wz) := Lib.hid (B1.out.trans (hb1.mono B1.out.size))
  have LSZ := hb1.size
  clear hs1 hn1 hb1 hlm hL1 LLL
  obtain ⟨r0, r1, r2, r3, r4, f0, f1, f2, f3, f4⟩ := BXz.out
  have X2 := Lib.hid (BXz.out.set ⟨room, L, down, armed, steps⟩ (.slice a1 m c1))
  have KS := Kept.set5D wz w.heap.size ⟨room, L, down, armed, steps⟩ (.slice a1 m c1)
  have F2 := Lib.hid (FBz.out.kept KS (by omega))
  have Z2 := Lib.hid (BZz.out.kept KS (by omega))
  have S2 := Lib.hid (SZ.out.off KS NZ.out (fun k hk => by omega))
  have B2 := Lib.hid (Bz.out.trans (KS.below Bz.out.size (fun k hk => by omega)))
  have hs2 : (set5D wz w.heap.size ⟨room, L, down, armed, steps⟩ (.slice a1 m c1)).heap.size = wz.heap.size := by simp [set5D, World.setCell]
  have LS2 : Hid (w.heap.size + 1 + 1 < (set5D wz w.heap.size ⟨room, L, down, armed, steps⟩ (.slice a1 m c1)).heap.size) := Lib.hid (by rw [hs2]; omega)
  unfold set5D at X2 F2 Z2 S2 B2 LS2
  clear KS hs2 BXz FBz BZz
  go_wp2_with fail
  generalize World.setCell _ _ _ = w2 at *
  clear r0 r1 r2 r3 r4 f0 f1 f2 f3 f4 SZ NZ Bz LSZ BX1 FB1 BZ1 LZ
  obtain ⟨k, hk, hbef, hat, hins⟩ := ins_place f L1
  have HK := Lib.hid hk
  have HBF := Lib.hid hbef
  have HAT := Lib.hid hat
  have HINS := Lib.hid hins
  clear hk hbef hat hins
  go_loopw [5, 6, 7] (fun lv dv i wr => ∃ j : Nat, i = .int .i64 j ∧ j ≤ m ∧ dv = .bool (decide (k < j)) ∧ OwnR wr w2.heap.size 96 3 lv ((insS f L1 k j).map rfV) ∧ Below w2.heap.size w2 wr) (fun _ _ i _ => m - (intOf i).toNat)
  case atStart => exact ⟨0, rfl, by omega, by simp, (by unfold insS; rw [if_pos (Nat.zero_le _)]; exact OwnR.nil _ _ _ _), Below.refl _ _⟩
  case round =>
    obtain ⟨j, rfl, hj, rfl, hown, hb⟩ := hrel
    have OW := Lib.hid hown
    have BR := Lib.hid hb
    have BXR := Lib.hid (X2.out.below hb)
    have FBR := Lib.hid (F2.out.below hb)
    have BZR := Lib.hid (Z2.out.below hb)
    have SR := Lib.hid (S2.out.below hb)
    have LW := hb.size
    obtain ⟨la, lc, rfl⟩ := hown.shape
    obtain ⟨ln, hln⟩ : ∃ ln, (List.map rfV (insS f L1 k j)).length = ln := ⟨_, rfl⟩
    have HLN := Lib.hid hln
    have HLS : Hid (ln ≤ 100000) := Lib.hid (by rw [← hln, List.length_map]; have h1 := length_insS f L1 k j; have h2 := HL1.out; have h3 := HMM.out; omega)
    rw [hln] at OW ⊢
    clear hown hb hln
    have hm1000 : (m : Int) ≤ 1000 := by have := HMM.out; omega
    obtain ⟨r0, r1, r2, r3, r4, f0, f1, f2, f3, f4⟩ := BXR.out
    have hlw := BXR.out.lt
    by_cases hlt : j < m
    · obtain ⟨g, hf, _⟩ := getAt (l := L1) (j := j) (by rw [HL1.out]; exact hlt)
      obtain ⟨b, o, rfl, hbl, c0, c1', c2⟩ := S2.out.file hf
      have HF := Lib.hid hf
      have CC := Lib.hid (And.intro c0 (And.intro c1' c2))
      have CB := Lib.hid hbl
      clear hf c0 c1' c2 hbl
      have ST := Stable.from wr
      have y0 := Below.at BR.out CC.out.1 CB.out
      have y1 := Below.at BR.out CC.out.2.1 CB.out
      have y2 := Below.at BR.out CC.out.2.2 CB.out
      obtain ⟨r0, r1, r2, r3, r4, f0, f1, f2, f3, f4⟩ := X2.out.below BR.out
      obtain ⟨s0, s1, s2, t0, t1, t2⟩ := F2.out.below BR.out
      have hlw := (X2.out.below BR.out).lt
      have hlf := (F2.out.below BR.out).lt
      have hlb := Nat.lt_of_lt_of_le CB.out BR.out.size
      rcases Nat.lt_trichotomy j k with hjk | hjk | hjk
      · have hdk : decide (k < j) = false := decide_eq_false (by omega)
        have hl : Op.bytesLess f.name.toList g.name.toList = false := by rw [str_lt]; exact HBF.out j g hjk HF.out
        have HNE : Hid (j ≠ k) := Lib.hid (by omega)
        have HDN : Hid (decide (k < j + 1) = false) := Lib.hid (decide_eq_false (by omega))
        rw [hdk]
        clear hdk hjk
        go_wp2_with fail
        clear y0 y1 y2 r0 r1 r2 r3 r4 f0 f1 f2 f3 f4 s0 s1 s2 t0 t1 t2 hlw hlf hlb
        refine region_start [0, 1, 3, 7, 15, 7, 39, 7, 231, 487, 999, 2047, 4095] 0 (fun w' => Below wr.heap.size wr w') (by kernel_rfl) ?_
        refine stage_heads [0, 1, 2, 3, 4, 5, 6, 7, 8, 9, 10, 11, 12] (by kernel_rfl) (L := #[true, true, true, true, true, true, true, true, true, true, true, true, true]) (by kernel_rfl) (f' := 0) rfl (fun _ _ _ _ h => h) (fun w o h => ST.alloc h o) (.inr (by first | exact Below.refl _ _ | exact (Below.refl _ _).drew)) ?_
        simp only [List.flatMap_cons, List.flatMap_nil, List.drop_succ_cons, List.drop_zero, List.take_succ_cons, List.take_zero, List.cons_append, List.nil_append, List.append_nil]
        iterate 13 (first | (refine heads_load _ (by rfl) (fun w' hs => by obtain ⟨r0, r1, r2, r3, r4, _⟩ := BXR.out.below hs; obtain ⟨s0, s1, s2, _⟩ := FBR.out.below hs; have y0 := Below.at hs (Below.at BR.out CC.out.1 CB.out) (Nat.lt_of_lt_of_le CB.out BR.out.size); go_simp; try with_reducible rfl) rfl ?_; simp only [Act.put, List.setIfInBounds_toArray, List.set_cons_zero, List.set_cons_succ]) | (refine heads_pure _ (by rfl) (fun w' => by go_simp; try with_reducible rfl) ?_; simp only [Act.put, List.setIfInBounds_toArray, List.set_cons_zero, List.set_cons_succ]) | (refine heads_skip (by rfl) ?_; simp only [Act.put, List.setIfInBounds_toArray, List.set_cons_zero, List.set_cons_succ]))
        refine heads_nil ?_
        refine stage_done (by kernel_rfl) ?_
        have BQ : Hid (Below w2.heap.size w2 wr.drew) := Lib.hid BR.out.drew
        have OQ : Hid (OwnR wr.drew w2.heap.size 96 3 (.slice la ln lc) ((insS f L1 k j).map rfV)) := Lib.hid (OW.out.below ((Below.refl _ _).drew))
        have LQ : w2.heap.size ≤ wr.drew.heap.size := BQ.out.size
        generalize wr.drew = wq at *
        have y0 := Below.at BQ.out CC.out.1 CB.out
        have y1 := Below.at BQ.out CC.out.2.1 CB.out
        have y2 := Below.at BQ.out CC.out.2.2 CB.out
        obtain ⟨r0, r1, r2, r3, r4, f0, f1, f2, f3, f4⟩ := X2.out.below BQ.out
        obtain ⟨s0, s1, s2, t0, t1, t2⟩ := F2.out.below BQ.out
        have hlw := (X2.out.below BQ.out).lt
        have hlf := (F2.out.below BQ.out).lt
        have hlb := Nat.lt_of_lt_of_le CB.out BQ.out.size
        have HOA : Hid (OwnR (wq.alloc (.cells #[.string g.name, .string (strN g.all), .int .i64 g.kept] 96)) w2.heap.size 96 3 (.slice la ln lc) ((insS f L1 k j).map rfV)) := Lib.hid (OQ.out.alloc _)
        have HCE := Lib.hid (rfV_cells wq g)
        have HBS : Hid (w2.heap.size ≤ (wq.alloc (.cells #[.string g.name, .string (strN g.all), .int .i64 g.kept] 96)).heap.size) := Lib.hid (by simp; omega)
        have HLE : Hid (((insS f L1 k j).map rfV).length ≤ 4294967296) := Lib.hid (by rw [HLN.out]; have := HLS.out; omega)
        go_wp2_with (at_builtin; refine wpList_append_row rfile3 _ _ rfl w2.heap.size _ _ _ _ rfl rfl HOA.out (rfV_len g) HCE.out (rfV_one g) HLE.out HBS.out rfl ?_; intro v3 w3 ho2 hg2 hat2 hb2; have O3 : Hid (OwnR w3 w2.heap.size 96 3 v3 (((insS f L1 k j) ++ [g]).map rfV)) := Lib.hid (by rw [List.map_append]; exact ho2); have B3 := Lib.hid hb2; clear ho2 hg2 hat2 hb2; skip)
        have BR3 : Hid (Below w2.heap.size w2 w3) := Lib.hid ((BQ.out.alloc LQ _).trans B3.out)
        go_roundw
        case rel => exact ⟨j + 1, by first | rfl | go_num, by omega, by rw [HDN.out], by rw [insS_step HF.out HNE.out]; exact O3.out, BR3.out⟩
        all_goals (show m - ((j : Int) + 1).toNat < m - ((j : Int)).toNat; omega)
      · have hdk : decide (k < j) = false := decide_eq_false (by omega)
        have hl : Op.bytesLess f.name.toList g.name.toList = true := by rw [str_lt]; exact HAT.out g (hjk ▸ HF.out)
        have HNE : Hid (j = k) := Lib.hid hjk
        have HDN : Hid (decide (k < j + 1) = true) := Lib.hid (decide_eq_true (by omega))
        rw [hdk]
        clear hdk hjk
        go_wp2_with fail
        clear y0 y1 y2 r0 r1 r2 r3 r4 f0 f1 f2 f3 f4 s0 s1 s2 t0 t1 t2 hlw hlf hlb
        refine region_start [0, 1, 3, 7, 15, 7, 39, 7, 231, 487, 999, 2047, 4095] 0 (fun w' => Below wr.heap.size wr w') (by kernel_rfl) ?_
        refine stage_heads [0, 1, 2, 3, 4, 5, 6, 7, 8, 9, 10, 11, 12] (by kernel_rfl) (L := #[true, true, true, true, true, true, true, true, true, true, true, true, true]) (by kernel_rfl) (f' := 0) rfl (fun _ _ _ _ h => h) (fun w o h => ST.alloc h o) (.inr (by first | exact Below.refl _ _ | exact (Below.refl _ _).drew)) ?_
        simp only [List.flatMap_cons, List.flatMap_nil, List.drop_succ_cons, List.drop_zero, List.take_succ_cons, List.take_zero, List.cons_append, List.nil_append, List.append_nil]
        iterate 13 (first | (refine heads_load _ (by rfl) (fun w' hs => by obtain ⟨r0, r1, r2, r3, r4, _⟩ := BXR.out.below hs; obtain ⟨s0, s1, s2, _⟩ := FBR.out.below hs; have y0 := Below.at hs (Below.at BR.out CC.out.1 CB.out) (Nat.lt_of_lt_of_le CB.out BR.out.size); go_simp; try with_reducible rfl) rfl ?_; simp only [Act.put, List.setIfInBounds_toArray, List.set_cons_zero, List.set_cons_succ]) | (refine heads_pure _ (by rfl) (fun w' => by go_simp; try with_reducible rfl) ?_; simp only [Act.put, List.setIfInBounds_toArray, List.set_cons_zero, List.set_cons_succ]) | (refine heads_skip (by rfl) ?_; simp only [Act.put, List.setIfInBounds_toArray, List.set_cons_zero, List.set_cons_succ]))
        refine heads_nil ?_
        refine stage_done (by kernel_rfl) ?_
        have BQ : Hid (Below w2.heap.size w2 wr.drew) := Lib.hid BR.out.drew
        have OQ : Hid (OwnR wr.drew w2.heap.size 96 3 (.slice la ln lc) ((insS f L1 k j).map rfV)) := Lib.hid (OW.out.below ((Below.refl _ _).drew))
        have LQ : w2.heap.size ≤ wr.drew.heap.size := BQ.out.size
        generalize wr.drew = wq at *
        have y0 := Below.at BQ.out CC.out.1 CB.out
        have y1 := Below.at BQ.out CC.out.2.1 CB.out
        have y2 := Below.at BQ.out CC.out.2.2 CB.out
        obtain ⟨r0, r1, r2, r3, r4, f0, f1, f2, f3, f4⟩ := X2.out.below BQ.out
        obtain ⟨s0, s1, s2, t0, t1, t2⟩ := F2.out.below BQ.out
        have hlw := (X2.out.below BQ.out).lt
        have hlf := (F2.out.below BQ.out).lt
        have hlb := Nat.lt_of_lt_of_le CB.out BQ.out.size
        have HOA : Hid (OwnR (wq.alloc (.cells #[.string f.name, .string (strN f.all), .int .i64 f.kept] 96)) w2.heap.size 96 3 (.slice la ln lc) ((insS f L1 k j).map rfV)) := Lib.hid (OQ.out.alloc _)
        have HCE := Lib.hid (rfV_cells wq f)
        have HBS : Hid (w2.heap.size ≤ (wq.alloc (.cells #[.string f.name, .string (strN f.all), .int .i64 f.kept] 96)).heap.size) := Lib.hid (by simp; omega)
        have HLE : Hid (((insS f L1 k j).map rfV).length ≤ 4294967296) := Lib.hid (by rw [HLN.out]; have := HLS.out; omega)
        go_wp2_with (at_builtin; first | (refine wpList_append_row rfile3 _ _ rfl w2.heap.size _ _ _ _ rfl rfl HOA.out (rfV_len f) HCE.out (rfV_one f) HLE.out HBS.out rfl ?_; intro v2 w4 ho2 hg2 hat2 hb2; have O2 : Hid (OwnR w4 w2.heap.size 96 3 v2 (((insS f L1 k j) ++ [f]).map rfV)) := Lib.hid (by rw [List.map_append]; exact ho2); have B2 := Lib.hid hb2; clear ho2 hg2 hat2 hb2; have BQ2 : Hid (Below w2.heap.size w2 w4) := Lib.hid ((BQ.out.alloc LQ _).trans B2.out); have LQ2 : w2.heap.size ≤ w4.heap.size := BQ2.out.size; clear y0 y1 y2 r0 r1 r2 r3 r4 f0 f1 f2 f3 f4 s0 s1 s2 t0 t1 t2 hlw hlf hlb; have y0 := Below.at BQ2.out CC.out.1 CB.out; have y1 := Below.at BQ2.out CC.out.2.1 CB.out; have y2 := Below.at BQ2.out CC.out.2.2 CB.out; obtain ⟨r0, r1, r2, r3, r4, f0, f1, f2, f3, f4⟩ := X2.out.below BQ2.out; obtain ⟨s0, s1, s2, t0, t1, t2⟩ := F2.out.below BQ2.out; have hlw := (X2.out.below BQ2.out).lt; have hlf := (F2.out.below BQ2.out).lt; have hlb := Nat.lt_of_lt_of_le CB.out BQ2.out.size; obtain ⟨la3, lc3, rfl⟩ := O2.out.shape; obtain ⟨ln3, hln3⟩ : ∃ ln, ((insS f L1 k j ++ [f]).map rfV).length = ln := ⟨_, rfl⟩; have HLE2 : Hid (((insS f L1 k j ++ [f]).map rfV).length ≤ 4294967296) := Lib.hid (by rw [List.length_map, List.length_append, List.length_singleton, ← List.length_map (f := rfV), HLN.out]; have := HLS.out; omega); rw [hln3] at O2 ⊢; clear hln3; have HOA2 : Hid (OwnR (w4.alloc (.cells #[.string g.name, .string (strN g.all), .int .i64 g.kept] 96)) w2.heap.size 96 3 (.slice la3 ln3 lc3) ((insS f L1 k j ++ [f]).map rfV)) := Lib.hid (O2.out.alloc _); have HCE2 := Lib.hid (rfV_cells w4 g); have HBS2 : Hid (w2.heap.size ≤ (w4.alloc (.cells #[.string g.name, .string (strN g.all), .int .i64 g.kept] 96)).heap.size) := Lib.hid (by simp; omega); have HLE3 : Hid (((insS f L1 k j ++ [f]).map rfV).length ≤ 4294967296) := Lib.hid (HLE2.out)) | (refine wpList_append_row rfile3 _ _ rfl w2.heap.size _ _ _ _ rfl rfl HOA2.out (rfV_len g) HCE2.out (rfV_one g) HLE3.out HBS2.out rfl ?_; intro v3 w3 ho2 hg2 hat2 hb2; have O3 : Hid (OwnR w3 w2.heap.size 96 3 v3 (((insS f L1 k j ++ [f]) ++ [g]).map rfV)) := Lib.hid (by rw [List.map_append]; exact ho2); have B3 := Lib.hid hb2; clear ho2 hg2 hat2 hb2; skip))
        have BR3 : Hid (Below w2.heap.size w2 w3) := Lib.hid ((BQ2.out.alloc LQ2 _).trans B3.out)
        go_roundw
        case rel => exact ⟨j + 1, by first | rfl | go_num, by omega, by rw [HDN.out], by have e := HNE.out; subst e; rw [insS_at HF.out]; exact O3.out, BR3.out⟩
        all_goals (show m - ((j : Int) + 1).toNat < m - ((j : Int)).toNat; omega)
      · have hdk : decide (k < j) = true := decide_eq_true hjk
        have HNE : Hid (j ≠ k) := Lib.hid (by omega)
        have HDN : Hid (decide (k < j + 1) = true) := Lib.hid (decide_eq_true (by omega))
        rw [hdk]
        clear hdk hjk
        go_wp2_with fail
        clear y0 y1 y2 r0 r1 r2 r3 r4 f0 f1 f2 f3 f4 s0 s1 s2 t0 t1 t2 hlw hlf hlb
        refine region_start [0, 1, 3, 7, 15, 7, 39, 7, 231, 487, 999, 2047, 4095] 0 (fun w' => Below wr.heap.size wr w') (by kernel_rfl) ?_
        refine stage_heads [0, 1, 2, 3, 4, 5, 6, 7, 8, 9, 10, 11, 12] (by kernel_rfl) (L := #[true, true, true, true, true, true, true, true, true, true, true, true, true]) (by kernel_rfl) (f' := 0) rfl (fun _ _ _ _ h => h) (fun w o h => ST.alloc h o) (.inr (by first | exact Below.refl _ _ | exact (Below.refl _ _).drew)) ?_
        simp only [List.flatMap_cons, List.flatMap_nil, List.drop_succ_cons, List.drop_zero, List.take_succ_cons, List.take_zero, List.cons_append, List.nil_append, List.append_nil]
        iterate 13 (first | (refine heads_load _ (by rfl) (fun w' hs => by obtain ⟨r0, r1, r2, r3, r4, _⟩ := BXR.out.below hs; obtain ⟨s0, s1, s2, _⟩ := FBR.out.below hs; have y0 := Below.at hs (Below.at BR.out CC.out.1 CB.out) (Nat.lt_of_lt_of_le CB.out BR.out.size); go_simp; try with_reducible rfl) rfl ?_; simp only [Act.put, List.setIfInBounds_toArray, List.set_cons_zero, List.set_cons_succ]) | (refine heads_pure _ (by rfl) (fun w' => by go_simp; try with_reducible rfl) ?_; simp only [Act.put, List.setIfInBounds_toArray, List.set_cons_zero, List.set_cons_succ]) | (refine heads_skip (by rfl) ?_; simp only [Act.put, List.setIfInBounds_toArray, List.set_cons_zero, List.set_cons_succ]))
        refine heads_nil ?_
        refine stage_done (by kernel_rfl) ?_
        have BQ : Hid (Below w2.heap.size w2 wr.drew) := Lib.hid BR.out.drew
        have OQ : Hid (OwnR wr.drew w2.heap.size 96 3 (.slice la ln lc) ((insS f L1 k j).map rfV)) := Lib.hid (OW.out.below ((Below.refl _ _).drew))
        have LQ : w2.heap.size ≤ wr.drew.heap.size := BQ.out.size
        generalize wr.drew = wq at *
        have y0 := Below.at BQ.out CC.out.1 CB.out
        have y1 := Below.at BQ.out CC.out.2.1 CB.out
        have y2 := Below.at BQ.out CC.out.2.2 CB.out
        obtain ⟨r0, r1, r2, r3, r4, f0, f1, f2, f3, f4⟩ := X2.out.below BQ.out
        obtain ⟨s0, s1, s2, t0, t1, t2⟩ := F2.out.below BQ.out
        have hlw := (X2.out.below BQ.out).lt
        have hlf := (F2.out.below BQ.out).lt
        have hlb := Nat.lt_of_lt_of_le CB.out BQ.out.size
        have HOA : Hid (OwnR (wq.alloc (.cells #[.string g.name, .string (strN g.all), .int .i64 g.kept] 96)) w2.heap.size 96 3 (.slice la ln lc) ((insS f L1 k j).map rfV)) := Lib.hid (OQ.out.alloc _)
        have HCE := Lib.hid (rfV_cells wq g)
        have HBS : Hid (w2.heap.size ≤ (wq.alloc (.cells #[.string g.name, .string (strN g.all), .int .i64 g.kept] 96)).heap.size) := Lib.hid (by simp; omega)
        have HLE : Hid (((insS f L1 k j).map rfV).length ≤ 4294967296) := Lib.hid (by rw [HLN.out]; have := HLS.out; omega)
        go_wp2_with (at_builtin; refine wpList_append_row rfile3 _ _ rfl w2.heap.size _ _ _ _ rfl rfl HOA.out (rfV_len g) HCE.out (rfV_one g) HLE.out HBS.out rfl ?_; intro v3 w3 ho2 hg2 hat2 hb2; have O3 : Hid (OwnR w3 w2.heap.size 96 3 v3 (((insS f L1 k j) ++ [g]).map rfV)) := Lib.hid (by rw [List.map_append]; exact ho2); have B3 := Lib.hid hb2; clear ho2 hg2 hat2 hb2; skip)
        have BR3 : Hid (Below w2.heap.size w2 w3) := Lib.hid ((BQ.out.alloc LQ _).trans B3.out)
        go_roundw
        case rel => exact ⟨j + 1, by first | rfl | go_num, by omega, by rw [HDN.out], by rw [insS_step HF.out HNE.out]; exact O3.out, BR3.out⟩
        all_goals (show m - ((j : Int) + 1).toNat < m - ((j : Int)).toNat; omega)
    · obtain rfl : j = m := by omega
      obtain ⟨z0, z1, z2, z3, z4, g0, g1, g2, g3, g4⟩ := BZR.out
      have hlz := BZR.out.lt
      by_cases hkm : k < j
      · have hdk : decide (k < j) = true := decide_eq_true hkm
        have HEND : Hid (insFile f L1 = insS f L1 k j) := Lib.hid (by rw [HINS.out]; unfold insS; rw [if_neg (by omega), List.take_of_length_le (l := L1.drop k) (by rw [List.length_drop, HL1.out]; exact Nat.le_refl _)])
        rw [hdk]
        clear hdk
        go_wp2_with fail
        have RFF := Lib.hid ((BZR.out.kept (Kept.setCell wr ⟨w.heap.size, 1, none⟩ (.slice la ln lc)) (by simp only; omega)).set ⟨room, [], down, armed, steps⟩ (.slice la ln lc))
        have KF := (Kept.setCell wr ⟨w.heap.size, 1, none⟩ (.slice la ln lc)).andThen (Kept.set5D (wr.setCell ⟨w.heap.size, 1, none⟩ (.slice la ln lc)) (w.heap.size + 1 + 1) ⟨room, [], down, armed, steps⟩ (.slice la ln lc)) (U := fun k => w.heap.size ≤ k ∧ k < w2.heap.size) (fun k h1 h2 => by simp only at h2; have := LS2.out; omega)
        have OF := Lib.hid (OW.out.kept KF (fun g hg h => by have := (OW.out.lt g hg).1; omega))
        have BF := Lib.hid ((B2.out.trans (BR.out.mono B2.out.size)).trans (KF.below (by have := B2.out.size; have := BR.out.size; omega) (fun k h => h.1)))
        unfold set5D at RFF OF BF
        clear KF
        generalize World.setCell _ _ _ = wF at *
        clear r0 r1 r2 r3 r4 f0 f1 f2 f3 f4 z0 z1 z2 z3 z4 g0 g1 g2 g3 g4
        obtain ⟨q0, q1, q2, q3, q4, _⟩ := RFF.out
        simp only at q0 q1 q2 q3 q4
        have HLL : (putFile f L).length = ln := by rw [HPUT.out, HEND.out, ← List.length_map (f := rfV)]; exact HLN.out
        refine bodyPost_ret (v := .agg #[.int .i64 room, .slice la ln lc, .bool down, .int .i64 armed, .int .u64 steps]) (by simp [results, Tryz.results40, go_sem, q0, q1, q2, q3, q4]) rfl ?_
        unfold RNew
        simp only
        rw [HLL]
        refine ⟨la, lc, rfl, ?_, fun g hg => by have := (OF.out.lt g hg).1; have := B2.out.size; omega, BF.out⟩
        have h := SRow.of_own OF.out
        rw [HPUT.out, HEND.out]
        exact h
      · have hdk : decide (k < j) = false := decide_eq_false hkm
        have HEND : Hid (insFile f L1 = insS f L1 k j ++ [f]) := Lib.hid (by
          have e : k = j := by have := HK.out; have := HL1.out; omega
          rw [HINS.out]
          unfold insS
          rw [if_pos (by omega), e, List.take_of_length_le (by rw [HL1.out]; exact Nat.le_refl _), List.drop_of_length_le (by rw [HL1.out]; exact Nat.le_refl _)])
        rw [hdk]
        clear hdk
        obtain ⟨s0, s1, s2, t0, t1, t2⟩ := FBR.out
        have hlf := FBR.out.lt
        have HOA : Hid (OwnR (wr.alloc (.cells #[.string f.name, .string (strN f.all), .int .i64 f.kept] 96)) w2.heap.size 96 3 (.slice la ln lc) ((insS f L1 k j).map rfV)) := Lib.hid (OW.out.alloc _)
        have HCE := Lib.hid (rfV_cells wr f)
        have HBS : Hid (w2.heap.size ≤ (wr.alloc (.cells #[.string f.name, .string (strN f.all), .int .i64 f.kept] 96)).heap.size) := Lib.hid (by simp; omega)
        have HLE : Hid (((insS f L1 k j).map rfV).length ≤ 4294967296) := Lib.hid (by rw [HLN.out]; have := HLS.out; omega)
        go_wp2_with (at_builtin; refine wpList_append_row rfile3 _ _ rfl w2.heap.size _ _ _ _ rfl rfl HOA.out (rfV_len f) HCE.out (rfV_one f) HLE.out HBS.out rfl ?_; intro v3 w3 ho2 hg2 hat2 hb2; have O3 : Hid (OwnR w3 w2.heap.size 96 3 v3 ((insS f L1 k j ++ [f]).map rfV)) := Lib.hid (by rw [List.map_append]; exact ho2); have B3 := Lib.hid hb2; clear ho2 hg2 hat2 hb2; have BR3 : Hid (Below w2.heap.size w2 w3) := Lib.hid ((BR.out.alloc LW _).trans B3.out); clear r0 r1 r2 r3 r4 f0 f1 f2 f3 f4 s0 s1 s2 t0 t1 t2 z0 z1 z2 z3 z4 g0 g1 g2 g3 g4 hlw hlf hlz; obtain ⟨r0, r1, r2, r3, r4, f0, f1, f2, f3, f4⟩ := X2.out.below BR3.out; have hlw := (X2.out.below BR3.out).lt; obtain ⟨z0, z1, z2, z3, z4, g0, g1, g2, g3, g4⟩ := Z2.out.below BR3.out; have hlz := (Z2.out.below BR3.out).lt; obtain ⟨la3, lc3, rfl⟩ := O3.out.shape; obtain ⟨ln3, hln3⟩ : ∃ ln, ((insS f L1 k j ++ [f]).map rfV).length = ln := ⟨_, rfl⟩; have HLN3 := Lib.hid hln3; rw [hln3] at O3 ⊢; clear hln3)
        have RFF := Lib.hid (((Z2.out.below BR3.out).kept (Kept.setCell w3 ⟨w.heap.size, 1, none⟩ (.slice la3 ln3 lc3)) (by simp only; omega)).set ⟨room, [], down, armed, steps⟩ (.slice la3 ln3 lc3))
        have KF := (Kept.setCell w3 ⟨w.heap.size, 1, none⟩ (.slice la3 ln3 lc3)).andThen (Kept.set5D (w3.setCell ⟨w.heap.size, 1, none⟩ (.slice la3 ln3 lc3)) (w.heap.size + 1 + 1) ⟨room, [], down, armed, steps⟩ (.slice la3 ln3 lc3)) (U := fun k => w.heap.size ≤ k ∧ k < w2.heap.size) (fun k h1 h2 => by simp only at h2; have := LS2.out; omega)
        have OF := Lib.hid (O3.out.kept KF (fun g hg h => by have := (O3.out.lt g hg).1; omega))
        have BF := Lib.hid ((B2.out.trans (BR3.out.mono B2.out.size)).trans (KF.below (by have := B2.out.size; have := BR3.out.size; omega) (fun k h => h.1)))
        unfold set5D at RFF OF BF
        clear KF
        generalize World.setCell _ _ _ = wF at *
        clear r0 r1 r2 r3 r4 f0 f1 f2 f3 f4 z0 z1 z2 z3 z4 g0 g1 g2 g3 g4
        obtain ⟨q0, q1, q2, q3, q4, _⟩ := RFF.out
        simp only at q0 q1 q2 q3 q4
        have HLL : (putFile f L).length = ln3 := by rw [HPUT.out, HEND.out, ← List.length_map (f := rfV)]; exact HLN3.out
        refine bodyPost_ret (v := .agg #[.int .i64 room, .slice la3 ln3 lc3, .bool down, .int .i64 armed, .int .u64 steps]) (by simp [results, Tryz.results40, go_sem, q0, q1, q2, q3, q4]) rfl ?_
        unfold RNew
        simp only
        rw [HLL]
        refine ⟨la3, lc3, rfl, ?_, fun g hg => by have := (OF.out.lt g hg).1; have := B2.out.size; omega, BF.out⟩
        have h := SRow.of_own OF.out
        rw [HPUT.out, HEND.out]
        exact h
end Go.Proofs.YtofhccpagnkalaaGreat

/- What a call of the document's disk tells, and where its files' slice lies: the old one, or new; no conditions. -/
namespace Go.Proofs.YtofhccpagnkalaaGreat
open Go.RowKit Go.Maps Go.Proofs.Own

/-- The block of a disk's files. -/
def fsOwn : Value → Option Nat
  | .agg vs => (vs.getD 1 (.bool false)).ownBlock
  | _ => none
/-- .. its files' slice is the old one, or lies in a new block. -/
def RPostN (r : DiskS × Nat) (v0 : Value) (w : World) : Ending → World → Prop := fun e w' => ∃ v, e = .returned (.tuple #[v, .int .i64 r.2]) ∧ RIs w' v r.1 ∧ Below w.heap.size w w' ∧ ∀ g, fsOwn v = some g → fsOwn v0 = some g ∨ w.heap.size ≤ g
theorem RPostN.post {r : DiskS × Nat} {v0 : Value} {w w' : World} {e : Ending} (h : RPostN r v0 w e w') : RPost r w e w' := let ⟨v, h1, h2, h3, _⟩ := h; ⟨v, h1, h2, h3⟩
end Go.Proofs.YtofhccpagnkalaaGreat
