/- Several texts in one: Crash, Fi. What each proves stands ahead of it; together they serve splays_law_holds. No conditions but those stated. -/
import Derived.Test.YtofhccpagnkalaaGreatSpb15
import Derived.Test.YtofhccpagnkalaaGreatSpb22
import Derived.Test.YtofhccpagnkalaaGreatSpb7
import Derived.Test.YtofhccpagnkalaaGreatSpb21
/- A crash of the disk; no conditions but the ranges. -/
namespace Go.Proofs.YtofhccpagnkalaaGreat
open Go.RowKit Go.Maps Go.Proofs.Own

theorem Rising.mid {A B : List FileS} {f : FileS} (h : Rising (A ++ f :: B)) : (∀ g ∈ A, nameLt g.name f.name = true) ∧ ∀ g ∈ B, nameLt f.name g.name = true := by
  obtain ⟨_, h2, h3⟩ := List.pairwise_append.1 h
  exact ⟨fun g hg => h3 g hg f List.mem_cons_self, (List.pairwise_cons.1 h2).1⟩
theorem find_mid {A B : List FileS} {f : FileS} (h : Rising (A ++ f :: B)) : findFile f.name (A ++ f :: B) = some f := by
  obtain ⟨h1, _⟩ := h.mid
  unfold findFile
  rw [List.find?_append, List.find?_eq_none.2 (fun g hg => by have := nameLt_ne (h1 g hg); simpa using this)]
  simp
theorem del_mid {A B : List FileS} {f : FileS} (h : Rising (A ++ f :: B)) : delFile f.name (A ++ f :: B) = A ++ B := by
  obtain ⟨h1, h2⟩ := h.mid
  unfold delFile
  rw [List.filter_append, List.filter_cons]
  rw [List.filter_eq_self.2 (fun g hg => by have := nameLt_ne (h1 g hg); simpa using this)]
  have hB : B.filter (fun g => !decide (g.name = f.name)) = B := List.filter_eq_self.2 (fun g hg => by have := (nameLt_ne (h2 g hg)).symm; simpa using this)
  rw [hB]
  simp
theorem ins_mid {f : FileS} : ∀ {A B : List FileS}, (∀ g ∈ A, nameLt g.name f.name = true) → (∀ g ∈ B, nameLt f.name g.name = true) → insFile f (A ++ B) = A ++ f :: B
  | [], [], _, _ => rfl
  | [], b :: B, _, h2 => by
    show insFile f (b :: B) = _
    rw [insFile, if_pos (h2 b List.mem_cons_self)]
    rfl
  | a :: A, B, h1, h2 => by
    show insFile f (a :: (A ++ B)) = _
    rw [insFile, nameLt_asymm (h1 a List.mem_cons_self), if_neg (by decide), ins_mid (fun g hg => h1 g (List.mem_cons_of_mem _ hg)) h2]
    rfl
theorem put_mid {A B : List FileS} {f f' : FileS} (h : Rising (A ++ f :: B)) (hn : f'.name = f.name) : putFile f' (A ++ f :: B) = A ++ f' :: B := by
  obtain ⟨h1, h2⟩ := h.mid
  unfold putFile
  rw [hn, del_mid h]
  exact ins_mid (by rw [hn]; exact h1) (by rw [hn]; exact h2)

/-- What is left of a file behind a crash. -/
def crash1 (f : FileS) (ts : List (Nat × Nat)) : List FileS :=
  if f.kept < f.all.length then (if f.all.take f.kept ++ tornL (f.all.drop f.kept) (ts.headD (0, 0)) = [] then [] else [⟨f.name, f.all.take f.kept ++ tornL (f.all.drop f.kept) (ts.headD (0, 0)), (f.all.take f.kept ++ tornL (f.all.drop f.kept) (ts.headD (0, 0))).length⟩])
  else if f.all = [] then [] else [f]
def tears1 (f : FileS) (ts : List (Nat × Nat)) : List (Nat × Nat) := if f.kept < f.all.length then ts.tail else ts
def crashL : List FileS → List (Nat × Nat) → List FileS
  | [], _ => []
  | f :: r, ts => crash1 f ts ++ crashL r (tears1 f ts)
def crashT : List FileS → List (Nat × Nat) → List (Nat × Nat)
  | [], ts => ts
  | f :: r, ts => crashT r (tears1 f ts)
def crashD (D : DiskS) (ts : List (Nat × Nat)) : DiskS := { D with down := true, armed := -1, files := crashL D.files ts }
theorem crashL_app (A B : List FileS) : ∀ ts, crashL (A ++ B) ts = crashL A ts ++ crashL B (crashT A ts) := by
  induction A with
  | nil => intro ts; rfl
  | cons f r ih => intro ts; simp only [List.cons_append, crashL, crashT, ih, List.append_assoc]
theorem crashT_app (A B : List FileS) : ∀ ts, crashT (A ++ B) ts = crashT B (crashT A ts) := by
  induction A with
  | nil => intro ts; rfl
  | cons f r ih => intro ts; simp only [List.cons_append, crashT, ih]
theorem length_tornL (l : List Nat) (t : Nat × Nat) : (tornL l t).length ≤ l.length := by
  unfold tornL
  split
  · rw [length_tornTo]; exact List.length_take_le' _ _
  · exact List.length_take_le' _ _
theorem tornL_lt {l : List Nat} (h : ∀ c ∈ l, c < 256) (t : Nat × Nat) : ∀ c ∈ tornL l t, c < 256 := by
  unfold tornL
  split
  · exact tornTo_lt (fun c hc => h c (List.mem_of_mem_take hc)) _ _
  · exact fun c hc => h c (List.mem_of_mem_take hc)

theorem length_crash1 (f : FileS) (ts : List (Nat × Nat)) : (crash1 f ts).length ≤ 1 := by
  unfold crash1
  split <;> split <;> simp
theorem length_crashL : ∀ (L : List FileS) (ts : List (Nat × Nat)), (crashL L ts).length ≤ L.length
  | [], _ => Nat.le_refl _
  | f :: r, ts => by
    have h1 := length_crash1 f ts
    have h2 := length_crashL r (tears1 f ts)
    simp only [crashL, List.length_append, List.length_cons]
    omega
theorem Bytes.offOne {w : World} {v x : Value} {l : List Nat} {g tc : Nat} {t : TypeId} (h : Bytes w v l) (hg : v.ownBlock = some g) (hne : l ≠ []) (hb : w.heap[tc]? = some (.cells #[x] t (0, 0))) (hx : ∀ y, x ≠ .int .u8 y) : g ≠ tc := by
  rintro rfl
  obtain ⟨b, o, c, rfl, _, _, hc⟩ := h.somewhere (List.length_pos_iff.2 hne)
  obtain rfl : b = g := Option.some.inj hg
  have h0 := hc 0 (List.length_pos_iff.2 hne)
  simp only [World.cell?, hb, Nat.add_zero] at h0
  cases o with
  | zero => exact hx _ (Option.some.inj h0)
  | succ o => simp at h0
theorem Bytes.setNe {w : World} {v : Value} {l : List Nat} (h : Bytes w v l) {p : Addr} (y : Value) (hne : ∀ x, w.cell? p ≠ some (.int .u8 x)) : Bytes (w.setCell p y) v l := ⟨h.shape, Reads.setNe h.rd y hne, h.lt, h.small⟩
theorem Bytes.keptIf {w w' : World} {v : Value} {l : List Nat} {S : Nat → Prop} (h : Bytes w v l) (hk : Kept w w' S) (hs : l ≠ [] → ∀ b, v.ownBlock = some b → ¬ S b) : Bytes w' v l := by
  by_cases hl : l = []
  · subst hl
    exact ⟨h.shape, by obtain ⟨a, c, rfl, _⟩ := h.shape; exact Reads.nil _ _ _ _, h.lt, h.small⟩
  · exact h.kept hk (hs hl)
/-- A block of one cell that holds no byte turns. -/
theorem DiskIs.keptOne {w w' : World} {db mb tb tc : Nat} {D : DiskS} {x : Value} {t : TypeId} (h : DiskIs w db mb tb D) (hb : w.heap[tc]? = some (.cells #[x] t (0, 0))) (hx : ∀ y, x ≠ .int .u8 y) (hk : Kept w w' (fun k => k = tc)) (ht : ¬ Own3 db mb tb tc) : DiskIs w' db mb tb D :=
  h.kept hk (fun k h1 h2 => ht (h2 ▸ h1)) fun vals f _ hf => by
    obtain ⟨a, c, h1, h2, h3⟩ := hf
    exact ⟨a, c, h1, h2.keptIf hk (fun hne b hb' => h2.offOne hb' hne hb hx), h3⟩

/-- A file that is there is found. -/
theorem DiskIs.look {w : World} {db mb tb : Nat} {D : DiskS} (h : DiskIs w db mb tb D) {n : ByteArray} {f : FileS} (hf : findFile n D.files = some f) (hn : n.size ≤ maxLen) :
    ∃ a c, (Instr.lookup 81 (.map (some mb)) (.string n) false).run Tryz.prog w = .ok (.agg #[.slice a f.all.length c, .int .i64 f.kept]) w ∧ FileIs w db mb tb (.agg #[.slice a f.all.length c, .int .i64 f.kept]) f := by
  obtain ⟨vals, hm, hfs⟩ := h.fs
  obtain ⟨hfn, hfm⟩ := find_name hf
  have hfi := hfs f hfm
  obtain ⟨a, c, hv, hB, hg⟩ := hfi
  rw [hfn] at hv
  obtain ⟨v, ps, hrun, hR⟩ := World.ownsMap.lookup hm law Tryz.underlying81 (zeroC w) (contR_mk _ _ _ _) (keyOf_name hn)
  obtain ⟨_, e2⟩ := contR_inv hR
  rw [dat_at, hf] at e2
  simp only [Prod.mk.injEq, DataW.held.injEq] at e2
  refine ⟨a, c, by rw [hrun, ← e2.1, hv], a, c, rfl, hB, hg⟩

/-- How it stands ahead of the k-th file. -/
structure CrI (w : World) (db mb tb : Nat) (D : DiskS) (ts : List (Nat × Nat)) (nv : Value) (k : Nat) (wr : World) : Prop where
  dsk : DiskIs wr db mb tb { D with down := true, armed := -1, files := crashL (D.files.take k) ts ++ D.files.drop k }
  tear : ∃ v, wr.heap[w.heap.size]? = some (.cells #[v] 64 (0, 0)) ∧ (∃ a n c, v = .slice a n c) ∧ TearsIs wr v (crashT (D.files.take k) ts) ∧ (crashT (D.files.take k) ts = [] ∨ ∀ b, v.ownBlock = some b → ¬ (Own3 db mb tb b ∨ w.heap.size ≤ b))
  nam : Strs wr nv (D.files.map (·.name))
  kept : Kept w wr (Own3 db mb tb)

set_option maxHeartbeats 1600000 in
set_option maxRecDepth 20000 in
theorem dcrash_any (db mb tb : Nat) (D : DiskS) (v : Value) (ts : List (Nat × Nat)) (w : World) (h : DiskIs w db mb tb D) (hw : DGood D) (hT : TearsIs w v ts) (hap : ts = [] ∨ ∀ b, v.ownBlock = some b → ¬ Own3 db mb tb b) :
    Calls Tryz.prog 50 #[.pointer (some ⟨db, 0, none⟩), v] w (OpPost db mb tb (crashD D ts, 0) w) := by
  have H := Lib.hid h
  have HT := Lib.hid hT
  have HAP := Lib.hid hap
  have HW := Lib.hid hw
  have HLT3 := Lib.hid h.lt3
  have many : D.files.length ≤ 128 := hw.few
  obtain ⟨av, cv, hv, _⟩ := hT.1.shape
  subst hv
  have LT : Hid (ts = [] ∨ ∀ b, (Value.slice av (List.map tearV ts).length cv).ownBlock = some b → b < w.heap.size) := Lib.hid (by
    cases ts with
    | nil => exact .inl rfl
    | cons x r =>
      right
      intro b hb
      obtain ⟨b', o, e, hl, _⟩ := hT.1.at (j := 0) (by simp)
      rw [e] at hb
      exact (Option.some.inj hb) ▸ hl)
  generalize (List.map tearV ts).length = nt at *
  clear h hT hap hw
  go_enter Tryz.func50, Tryz.ntmps50
  go_wp2_with fail
  have BX : Below w.heap.size w (w.alloc (.cells #[.slice av nt cv] 64)) := (Below.refl _ _).alloc (Nat.le_refl _) _
  have TX : (w.alloc (.cells #[.slice av nt cv] 64)).heap[w.heap.size]? = some (.cells #[.slice av nt cv] 64 (0, 0)) := heap_alloc_new _ _
  generalize World.alloc w _ = wa at *
  have BA := Lib.hid BX
  have TA := Lib.hid TX
  have la : w.heap.size < wa.heap.size := lt_of_block TX
  have HA := Lib.hid (H.out.below BX)
  clear BX TX
  refine (dnone db mb tb D _ HA.out).mono ?_
  rintro e wa2 ⟨rfl, rfl⟩
  have c2 := HA.out.c2
  have c3 := HA.out.c3
  have f2 := HA.out.f2
  have f3 := HA.out.f3
  have hl := HA.out.lt
  go_wp2_with fail
  generalize hwb : World.setCell (World.setCell wa _ _) _ _ = wb
  have DB : Hid (DiskIs wb db mb tb { D with down := true, armed := -1 }) := Lib.hid (by subst hwb; exact (HA.out.setDown true).setArmed (-1))
  have KB : Hid (Kept wa wb (Own3 db mb tb)) := Lib.hid (by subst hwb; exact (Kept.set3 _ _ _ _ _ _).trans (Kept.set3 _ _ _ _ _ _))
  clear hwb c2 c3 f2 f3
  refine (dnames db mb tb _ _ DB.out (by have h := HW.out.wf; exact ⟨h.room0, h.room1, Int.le_refl _, (by decide : (-1 : Int) ≤ 9223372036854775807), h.steps0, h.steps1, h.many, h.each⟩)).mono ?_
  rintro e wc ⟨nv, rfl, hnv, hbc, hno⟩
  have NV := Lib.hid hnv
  have BC := Lib.hid hbc
  obtain ⟨an, cn, rfl, _⟩ := hnv
  have NW : Hid (Own3 db mb tb w.heap.size → False) := Lib.hid fun e => by have := HLT3.out _ e; omega
  have HNO : Hid (∀ b, (Value.slice an (List.map (fun f : FileS => f.name) D.files).length cn).ownBlock = some b → ¬ (Own3 db mb tb b ∨ b = w.heap.size)) := Lib.hid fun b hb => by
    have h1 := hno b hb
    have h2 := KB.out.size
    rintro (e | e)
    · have := HLT3.out b e; omega
    · omega
  have IC : Hid (CrI w db mb tb D ts (.slice an (List.map (fun f : FileS => f.name) D.files).length cn) 0 wc) := Lib.hid (by
    have tb1 : wb.heap[w.heap.size]? = some (.cells #[.slice av nt cv] 64 (0, 0)) := (KB.out.block _ la (fun e => NW.out e)).trans TA.out
    refine ⟨DB.out.below BC.out, ⟨_, (BC.out.block _ (lt_of_block tb1)).trans tb1, ⟨_, _, _, rfl⟩, ?_, ?_⟩, NV.out, (((Kept.below3 BA.out).trans KB.out).trans (Kept.below3 BC.out))⟩
    · exact ((HT.out.below BA.out).kept KB.out HAP.out).below BC.out
    · rcases HAP.out with e | h1
      · exact .inl e
      · rcases LT.out with e | h2
        · exact .inl e
        · exact .inr fun b hb h => h.elim (h1 b hb) (fun h => by have := h2 b hb; omega))
  clear hbc hno TA la
  have HNL : Hid ((List.map (fun f : FileS => f.name) D.files).length = D.files.length) := Lib.hid (List.length_map _)
  rw [HNL.out] at HNO IC ⊢
  go_wp2_with fail
  go_loopw [21] (fun y wr => ∃ k : Nat, k ≤ D.files.length ∧ y = .int .i64 k ∧ CrI w db mb tb D ts (.slice an D.files.length cn) k wr) (fun y _ => D.files.length - (intOf y).toNat)
  case atStart => exact ⟨0, Nat.zero_le _, rfl, IC.out⟩
  case round =>
    obtain ⟨k, hk, rfl, hi⟩ := hrel
    have I := Lib.hid hi
    clear hi IC NV
    by_cases hlt : k < D.files.length
    · have HSP : Hid (D.files.drop k = D.files[k] :: D.files.drop (k + 1) ∧ D.files.take (k + 1) = D.files.take k ++ [D.files[k]]) := Lib.hid ⟨List.drop_eq_getElem_cons hlt, List.take_succ_eq_append_getElem hlt⟩
      have HNM : Hid (∃ b o, an = some ⟨b, o, none⟩ ∧ wr.cell? ⟨b, o + k, none⟩ = some (.string (D.files[k]).name)) := Lib.hid (by
        obtain ⟨a', c', e, hc⟩ := I.out.nam
        obtain ⟨b, o, e1, e2⟩ := hc k (by rw [List.length_map]; exact hlt)
        injection e with e3
        exact ⟨b, o, e3.trans e1, by rw [e2, List.getElem_map]⟩)
      obtain ⟨nb, no, rfl, hnc⟩ := HNM.out
      have HEA : Hid ((D.files[k]).name.size ≤ 16 ∧ (D.files[k]).kept ≤ (D.files[k]).all.length) := Lib.hid (HW.out.wf.each _ (List.getElem_mem hlt))
      have HCR : Hid (crashL (D.files.take (k + 1)) ts = crashL (D.files.take k) ts ++ crash1 D.files[k] (crashT (D.files.take k) ts) ∧ crashT (D.files.take (k + 1)) ts = tears1 D.files[k] (crashT (D.files.take k) ts)) := Lib.hid (by
        rw [HSP.out.2, crashL_app, crashT_app]
        exact ⟨by simp [crashL], rfl⟩)
      obtain ⟨hdk, ⟨tv, ht1, ⟨ta, tn, tcp, rfl⟩, ht3, ht4⟩, hnam, hkk⟩ := I.out
      rw [HSP.out.1] at hdk
      have HLA : Hid ((crashL (D.files.take k) ts).length ≤ (D.files.take k).length) := Lib.hid (length_crashL _ _)
      generalize D.files[k] = f at *
      generalize crashL (D.files.take k) ts = A at *
      generalize crashT (D.files.take k) ts = T at *
      obtain ⟨BQ, hBQ⟩ : ∃ B, B = D.files.drop (k + 1) := ⟨_, rfl⟩
      rw [← hBQ] at hdk
      have HBQ := Lib.hid hBQ
      have HD := Lib.hid hdk
      have HRS : Hid (Rising (A ++ f :: BQ)) := Lib.hid (by obtain ⟨_, hm, _⟩ := hdk.fs; exact hm.rising)
      obtain ⟨a, c, hrun, hfi⟩ := hdk.look (n := f.name) (f := f) (find_mid HRS.out) (by have := HEA.out.1; unfold maxLen; omega)
      have FI := Lib.hid hfi
      have TC := Lib.hid (And.intro ht1 (And.intro ht3 ht4))
      have ltc : w.heap.size < wr.heap.size := lt_of_block ht1
      have ldb : db < wr.heap.size := hdk.lt
      have HLN : Hid ((A ++ f :: BQ).length ≤ 128) := Lib.hid (by
        rw [hBQ, ← HSP.out.1]
        have := HLA.out
        rw [List.length_append, List.length_drop]
        rw [List.length_take] at this
        omega)
      have HKEY : Hid (keyOf Tryz.prog 9 (.string f.name) = some (keyL f.name)) := Lib.hid (keyOf_name (by have := HEA.out.1; unfold maxLen; omega))
      have KK := Lib.hid hkk
      have NMR := Lib.hid hnam
      have c0 := hdk.c0
      have hbz : (Value.slice a f.all.length c) = (Value.slice a f.all.length c) := rfl
      have HFL : Hid (f.all.length ≤ 2097152) := Lib.hid (by obtain ⟨_, _, _, hB, _⟩ := hfi; exact hB.small)
      have k0 : (0 : Int) ≤ (k : Int) := by omega
      have k1 : (k : Int) < (D.files.length : Int) := by omega
      have hfl : (f.all.length : Int) ≤ 2097152 := by have := HFL.out; omega
      clear hBQ hdk hfi ht1 ht3 ht4 hkk hnam hbz
      by_cases hgt : f.kept < f.all.length
      · have hgt' : (f.kept : Int) < (f.all.length : Int) := by omega
        obtain ⟨th, hth⟩ : ∃ th, T.headD (0, 0) = th := ⟨_, rfl⟩
        have HTH := Lib.hid hth
        clear hth
        have B1 : Hid (Below wr.heap.size wr (wr.alloc (.cells #[.slice a f.all.length c, .int .i64 f.kept] 87))) := Lib.hid ((Below.refl _ _).alloc (Nat.le_refl _) _)
        have HT1 : Hid (tears1 f T = T.tail) := Lib.hid (if_pos hgt)
        have HFN : Hid (f.all ≠ []) := Lib.hid (fun e => by rw [e] at hgt; exact absurd hgt (Nat.not_lt_zero _))
        have HCR1 : Hid (crash1 f T = if (f.all.take f.kept ++ tornL (f.all.drop f.kept) th) = [] then [] else [⟨f.name, (f.all.take f.kept ++ tornL (f.all.drop f.kept) th), (f.all.take f.kept ++ tornL (f.all.drop f.kept) th).length⟩]) := Lib.hid (by unfold crash1; rw [if_pos hgt, HTH.out])
        go_wp2_with fail
        have X1' : ((wr.alloc (.cells #[.slice a f.all.length c, .int .i64 f.kept] 87)).cell? ⟨wr.heap.size, 0, none⟩ = some (.slice a f.all.length c) ∧ (wr.alloc (.cells #[.slice a f.all.length c, .int .i64 f.kept] 87)).cell? ⟨wr.heap.size, 1, none⟩ = some (.int .i64 f.kept) ∧ (wr.alloc (.cells #[.slice a f.all.length c, .int .i64 f.kept] 87)).frozen? ⟨wr.heap.size, 0, none⟩ = false ∧ (wr.alloc (.cells #[.slice a f.all.length c, .int .i64 f.kept] 87)).frozen? ⟨wr.heap.size, 1, none⟩ = false) := ⟨by go_cell, by go_cell, by simp, by simp⟩
        have L1' : wr.heap.size < (wr.alloc (.cells #[.slice a f.all.length c, .int .i64 f.kept] 87)).heap.size := by simp
        generalize World.alloc wr _ = w1 at *
        have X1 := Lib.hid X1'
        have L1 := L1'
        have H1 := Lib.hid (HD.out.below B1.out)
        have TC1 : Hid (w1.heap[w.heap.size]? = some (.cells #[.slice ta tn tcp] 64 (0, 0)) ∧ TearsIs w1 (.slice ta tn tcp) T ∧ (T = [] ∨ ∀ b, (Value.slice ta tn tcp).ownBlock = some b → ¬ (Own3 db mb tb b ∨ w.heap.size ≤ b))) := Lib.hid ⟨(B1.out.block _ ltc).trans TC.out.1, TC.out.2.1.below B1.out, TC.out.2.2⟩
        have NF : Hid (¬ wr.heap.size = w.heap.size) := Lib.hid (by omega)
        have FI1 : Hid (FileIs w1 db mb tb (.agg #[.slice a f.all.length c, .int .i64 f.kept]) f) := Lib.hid (FI.out.below B1.out)
        have HB0 : Hid (Bytes w1 (.slice a f.all.length c) f.all) := Lib.hid (by obtain ⟨a2, c2, e1, e2, _⟩ := FI1.out; cases e1; exact e2)
        obtain ⟨a1, hB1, hO1, hcut1⟩ := HB0.out.cut_hmo Tryz.u8s f.kept (Nat.le_of_lt hgt)
        obtain ⟨v2, hB2, hO2, hcut2⟩ := HB0.out.cutlo Tryz.u8s f.kept (Nat.le_of_lt hgt)
        have HB1 := Lib.hid hB1
        have HB2 := Lib.hid hB2
        have HO1 := Lib.hid hO1
        have HTC : Hid (∀ y, (Value.slice ta tn tcp) ≠ .int .u8 y) := Lib.hid (fun y e => by cases e)
        have NB1 : Hid (∀ g, (Value.slice a1 f.kept f.kept).ownBlock = some g → ¬ g = w.heap.size) := Lib.hid fun g hg => by rw [hO1] at hg; exact HB0.out.offOne hg HFN.out TC1.out.1 HTC.out
        have NB2 : Hid (∀ g, v2.ownBlock = some g → ¬ g = w.heap.size) := Lib.hid fun g hg => by rw [hO2] at hg; exact HB0.out.offOne hg HFN.out TC1.out.1 HTC.out
        have HTB : Hid (th.1 < 65536 ∧ th.2 < 4294967296) := Lib.hid (by
          rw [← HTH.out]
          cases T with
          | nil => exact ⟨by decide, by decide⟩
          | cons x r => exact TC1.out.2.1.2 x List.mem_cons_self)
        have HTN : Hid ((∀ c ∈ (tornL (f.all.drop f.kept) th), c < 256) ∧ (tornL (f.all.drop f.kept) th).length ≤ 2097152 ∧ (f.all.take f.kept).length + (tornL (f.all.drop f.kept) th).length ≤ 2097152) := Lib.hid (by
          have h1 := length_tornL (f.all.drop f.kept) th
          rw [List.length_drop] at h1
          have := HFL.out
          exact ⟨tornL_lt (fun c hc => HB0.out.lt c (List.mem_of_mem_drop hc)) _, by omega, by rw [List.length_take]; omega⟩)
        obtain ⟨av2, m2, cv2, ev2⟩ : ∃ a n c, v2 = Value.slice a n c := by obtain ⟨a, c, e, _⟩ := hB2.shape; exact ⟨a, _, c, e⟩
        subst ev2
        have hkp : (f.kept : Int) ≤ 2097152 := by omega
        have x0 := X1.out.1
        have x1 := X1.out.2.1
        have HCUT := Lib.hid (And.intro hcut1 hcut2)
        clear hB1 hB2 hO1 hO2 X1' L1' hrun hnc c0
        refine region_start [0, 1, 0, 4, 0, 16, 63, 0, 128, 0, 512, 1920, 0, 4096, 16256, 32767, 65535, 131071] 24576 (fun w' => w'.cell? ⟨wr.heap.size, 0, none⟩ = some (.slice a f.all.length c) ∧ w'.cell? ⟨wr.heap.size, 1, none⟩ = some (.int .i64 f.kept)) (by kernel_rfl) ?_
        refine stage_heads [0, 1, 2, 3, 4, 5, 6, 7, 8, 9, 10, 11, 12] (by kernel_rfl) (L := #[true, true, true, true, true, true, true, true, true, true, true, true, true, false, false, false, false, false]) (by kernel_rfl) (f' := 5) rfl (fun _ _ _ _ h => h) (fun w o h => ((Stable.cell _ _).and (Stable.cell _ _)).alloc h o) (.inr ⟨x0, x1⟩) ?_
        simp only [List.flatMap_cons, List.flatMap_nil, List.drop_succ_cons, List.drop_zero, List.take_succ_cons, List.take_zero, List.cons_append, List.nil_append, List.append_nil]
        iterate 13 (first | (refine heads_load _ (by rfl) (fun w' hs => by obtain ⟨y0, y1⟩ := hs; go_simp; try with_reducible rfl) rfl ?_; simp only [Act.put, List.setIfInBounds_toArray, List.set_cons_zero, List.set_cons_succ]) | (refine heads_pure _ (by rfl) (fun w' => by go_simp; try with_reducible rfl) ?_; simp only [Act.put, List.setIfInBounds_toArray, List.set_cons_zero, List.set_cons_succ]))
        refine heads_nil ?_
        refine stage_op 13 (by kernel_rfl) (L := #[true, true, true, true, true, true, true, true, true, true, true, true, true, true, false, false, false, false]) (by kernel_rfl) ?_
        simp only [List.drop_succ_cons, List.drop_zero, List.take_succ_cons, List.take_zero]
        go_wp2_with fail; refine (dnext_any w.heap.size (fun b => Own3 db mb tb b ∨ w.heap.size ≤ b) (.inr (Nat.le_refl _)) (.slice ta tn tcp) T _ (by exact TC1.out.1) (by exact TC1.out.2.1) (by exact TC1.out.2.2)).mono ?_; rintro e u3 ⟨rfl, htear3, hk3⟩; rw [HTH.out]; have K3 : Hid (Kept w1 u3 (fun k => k = w.heap.size)) := Lib.hid (by first | exact hk3 | exact (Kept.drew w1 _).trans hk3); have TE3 := Lib.hid htear3; have L3 : wr.heap.size < u3.heap.size := Nat.lt_of_lt_of_le L1 K3.out.size; have X3 : Hid (u3.cell? ⟨wr.heap.size, 0, none⟩ = some (.slice a f.all.length c) ∧ u3.cell? ⟨wr.heap.size, 1, none⟩ = some (.int .i64 f.kept) ∧ u3.frozen? ⟨wr.heap.size, 0, none⟩ = false ∧ u3.frozen? ⟨wr.heap.size, 1, none⟩ = false) := Lib.hid ⟨K3.out.cell X1.out.1 NF.out, K3.out.cell X1.out.2.1 NF.out, (K3.out.frozen (a := ⟨wr.heap.size, 0, none⟩) L1 NF.out).trans X1.out.2.2.1, (K3.out.frozen (a := ⟨wr.heap.size, 1, none⟩) L1 NF.out).trans X1.out.2.2.2⟩; clear htear3 hk3 x0 x1; go_wp2_with fail
        refine step_post (fun _ => ⟨X3.out.1, X3.out.2.1⟩) ?_
        refine stage_op 14 (by kernel_rfl) (L := #[true, true, true, true, true, true, true, true, true, true, true, true, true, true, true, false, false, false]) (by kernel_rfl) ?_
        simp only [List.drop_succ_cons, List.drop_zero, List.take_succ_cons, List.take_zero]
        go_wp2_with fail; refine (torn_any _ (f.all.drop f.kept) th _ (HB2.out.keptIf K3.out (fun _ g hg e => NB2.out g hg e)) HTB.out.1 HTB.out.2).mono ?_; rintro e u4 ⟨v4, rfl, hown4, hb4⟩; obtain ⟨a4, n4, c4, rfl⟩ := shape3 hown4; have B4 : Hid (Below u3.heap.size u3 u4) := Lib.hid (by first | exact hb4 | exact ((Below.refl _ _).drew).trans hb4); have HB4 : Hid (Bytes u4 (.slice a4 n4 c4) (tornL (f.all.drop f.kept) th)) := Lib.hid (Bytes.of_owns hown4 HTN.out.1 HTN.out.2.1); have L4 : wr.heap.size < u4.heap.size := Nat.lt_of_lt_of_le L3 B4.out.size; have X4 : Hid (u4.cell? ⟨wr.heap.size, 0, none⟩ = some (.slice a f.all.length c) ∧ u4.cell? ⟨wr.heap.size, 1, none⟩ = some (.int .i64 f.kept) ∧ u4.frozen? ⟨wr.heap.size, 0, none⟩ = false ∧ u4.frozen? ⟨wr.heap.size, 1, none⟩ = false) := Lib.hid ⟨Below.at B4.out X3.out.1 L3, Below.at B4.out X3.out.2.1 L3, by rw [B4.out.frozen (p := ⟨wr.heap.size, 0, none⟩) L3]; exact X3.out.2.2.1, by rw [B4.out.frozen (p := ⟨wr.heap.size, 1, none⟩) L3]; exact X3.out.2.2.2⟩; clear hown4 hb4; go_wp2_with fail
        refine step_post (fun _ => ⟨X4.out.1, X4.out.2.1⟩) ?_
        refine stage_op 15 (by kernel_rfl) (L := #[true, true, true, true, true, true, true, true, true, true, true, true, true, true, true, true, false, false]) (by kernel_rfl) ?_
        simp only [List.drop_succ_cons, List.drop_zero, List.take_succ_cons, List.take_zero]
        refine wpList_append_full Tryz.u8s rfl _ _ rfl a1 f.kept (.slice a4 n4 c4) (f.all.take f.kept) (tornL (f.all.drop f.kept) th) rfl rfl ((HB1.out.keptIf K3.out (fun _ g hg e => NB1.out g hg e)).below B4.out) HB4.out HTN.out.2.2 ?_; intro a5 c5 w5 hB5 hb5 ho5; have HB5 := Lib.hid hB5; have B5 := Lib.hid hb5; have HO5 := Lib.hid ho5; have L5 : wr.heap.size < w5.heap.size := Nat.lt_of_lt_of_le L4 B5.out.size; have X5 : Hid (w5.cell? ⟨wr.heap.size, 0, none⟩ = some (.slice a f.all.length c) ∧ w5.cell? ⟨wr.heap.size, 1, none⟩ = some (.int .i64 f.kept) ∧ w5.frozen? ⟨wr.heap.size, 0, none⟩ = false ∧ w5.frozen? ⟨wr.heap.size, 1, none⟩ = false) := Lib.hid ⟨Below.at B5.out X4.out.1 L4, Below.at B5.out X4.out.2.1 L4, by rw [B5.out.frozen (p := ⟨wr.heap.size, 0, none⟩) L4]; exact X4.out.2.2.1, by rw [B5.out.frozen (p := ⟨wr.heap.size, 1, none⟩) L4]; exact X4.out.2.2.2⟩; generalize hn5 : (f.all.take f.kept).length + (tornL (f.all.drop f.kept) th).length = n5 at HB5 HO5 ⊢; have HN5 := Lib.hid hn5; clear hB5 hb5 ho5 hn5; go_wp2_with fail
        refine step_post nofun ?_
        refine stage_heads [16] (by kernel_rfl) (L := #[true, true, true, true, true, true, true, true, true, true, true, true, true, true, true, true, true, false]) (by kernel_rfl) (f' := 1) rfl (fun _ _ _ _ h => h) (fun w o h => ((Stable.cell _ _).and (Stable.cell _ _)).alloc h o) (.inl (by kernel_rfl)) ?_
        simp only [List.flatMap_cons, List.flatMap_nil, List.drop_succ_cons, List.drop_zero, List.take_succ_cons, List.take_zero, List.append_nil]
        iterate 1 (refine heads_pure _ (by rfl) (fun w' => by go_simp; try with_reducible rfl) ?_; simp only [Act.put, List.setIfInBounds_toArray, List.set_cons_zero, List.set_cons_succ])
        refine heads_nil ?_
        refine stage_op 17 (by kernel_rfl) (L := #[true, true, true, true, true, true, true, true, true, true, true, true, true, true, true, true, true, true]) (by kernel_rfl) ?_
        simp only [List.drop_succ_cons, List.drop_zero, List.take_succ_cons, List.take_zero]
        have x50 := X5.out.1; have x51 := X5.out.2.1; have f50 := X5.out.2.2.1; have f51 := X5.out.2.2.2; go_wp2_with fail
        refine step_post nofun ?_
        refine stage_done (by kernel_rfl) ?_
        go_wp2_with fail
        generalize hw6 : World.setCell (World.setCell w5 _ _) _ _ = w6
        have X6 : Hid (w6.cell? ⟨wr.heap.size, 0, none⟩ = some (.slice a5 n5 c5) ∧ w6.cell? ⟨wr.heap.size, 1, none⟩ = some (.int .i64 n5) ∧ w6.frozen? ⟨wr.heap.size, 0, none⟩ = false ∧ w6.frozen? ⟨wr.heap.size, 1, none⟩ = false) := Lib.hid (by
          subst hw6
          refine ⟨?_, World.cell?_setCell_same _ _ _ (by rw [World.cell?_setCell_other _ _ _ _ (by simp)]; exact X5.out.2.1), by rw [World.frozen?_setCell, World.frozen?_setCell]; exact X5.out.2.2.1, by rw [World.frozen?_setCell, World.frozen?_setCell]; exact X5.out.2.2.2⟩
          rw [World.cell?_setCell_other _ _ _ _ (by simp)]
          exact World.cell?_setCell_same _ _ _ X5.out.1)
        have K6 : Hid (Kept w5 w6 (fun k => k = wr.heap.size)) := Lib.hid (by subst hw6; exact (Kept.setCell w5 ⟨wr.heap.size, 0, none⟩ _).trans (Kept.setCell _ ⟨wr.heap.size, 1, none⟩ _))
        have NFO : Hid (¬ Own3 db mb tb wr.heap.size) := Lib.hid (fun e => by have := HLT3.out _ e; omega)
        have S0 : Hid (∀ x, w5.cell? ⟨wr.heap.size, 0, none⟩ ≠ some (.int .u8 x)) := Lib.hid (fun x e => by rw [X5.out.1] at e; cases e)
        have S1 : Hid (∀ y x, (w5.setCell ⟨wr.heap.size, 0, none⟩ y).cell? ⟨wr.heap.size, 1, none⟩ ≠ some (.int .u8 x)) := Lib.hid (fun y x e => by rw [World.cell?_setCell_other _ _ _ _ (by simp), X5.out.2.1] at e; cases e)
        have D5 : Hid (DiskIs w5 db mb tb { D with down := true, armed := -1, files := A ++ f :: BQ }) := Lib.hid (((H1.out.keptOne TC1.out.1 HTC.out K3.out (fun e => NW.out e)).below B4.out).below B5.out)
        have D6 : Hid (DiskIs w6 db mb tb { D with down := true, armed := -1, files := A ++ f :: BQ }) := Lib.hid (by subst hw6; exact (D5.out.setOther _ NFO.out S0.out).setOther _ NFO.out (S1.out _))
        have FI6 : Hid (FileIs w6 db mb tb (.agg #[.slice a5 n5 c5, .int .i64 n5]) ⟨f.name, (f.all.take f.kept ++ tornL (f.all.drop f.kept) th), n5⟩) := Lib.hid (by
          have hlen : (f.all.take f.kept ++ tornL (f.all.drop f.kept) th).length = n5 := by rw [List.length_append]; exact HN5.out
          have hb6 : Bytes w6 (.slice a5 n5 c5) (f.all.take f.kept ++ tornL (f.all.drop f.kept) th) := by subst hw6; exact (HB5.out.setNe _ S0.out).setNe _ (S1.out _)
          refine ⟨a5, c5, by simp only [hlen], by simp only [hlen]; exact hb6, ?_⟩
          rcases HO5.out with ⟨h1, h2⟩ | h2
          · obtain ⟨a2, c2, e1, _, e3⟩ := FI1.out
            cases e1
            rcases e3 with e3 | ⟨g, hg, hn⟩
            · exact absurd e3 HFN.out
            · refine .inr ⟨g, ?_, hn⟩
              simp only [hlen]
              rw [h2, HO1.out]; exact hg
          · refine .inr ⟨_, by simp only [hlen]; exact h2, ?_⟩
            have hx : ∀ k, Own3 db mb tb k → u4.heap.size ≠ k := fun k hk e => by have := HLT3.out _ hk; omega
            exact ⟨hx _ (.inl rfl), hx _ (.inr (.inl rfl)), hx _ (.inr (.inr rfl))⟩)
        have XR : Hid (w6.cell? ⟨db, 0, none⟩ = some (.map (some mb)) ∧ w6.cell? ⟨wr.heap.size, 0, none⟩ = some (.slice a5 n5 c5) ∧ w6.cell? ⟨wr.heap.size, 1, none⟩ = some (.int .i64 n5)) := Lib.hid ⟨D6.out.c0, X6.out.1, X6.out.2.1⟩
        obtain ⟨vals, hmap, hfs⟩ := D6.out.fs
        have MR : Hid (MapIs w6 mb vals (A ++ f :: BQ)) := Lib.hid hmap
        have FS := Lib.hid hfs
        have hcutC := HCUT.out
        clear hw6 hmap hfs x50 x51 f50 f51 hcutC
        refine region_start [0, 1, 3, 7, 0, 0, 63] 0 (fun w' => w'.cell? ⟨db, 0, none⟩ = some (.map (some mb)) ∧ w'.cell? ⟨wr.heap.size, 0, none⟩ = some (.slice a5 n5 c5) ∧ w'.cell? ⟨wr.heap.size, 1, none⟩ = some (.int .i64 n5)) (by kernel_rfl) ?_
        refine stage_heads [0, 1, 2, 3, 4, 5] (by kernel_rfl) (L := #[true, true, true, true, true, true, false]) (by kernel_rfl) (f' := 1) rfl (fun _ _ _ _ h => h) (fun w o h => (((Stable.cell _ _).and ((Stable.cell _ _).and (Stable.cell _ _))).alloc h o)) (.inr XR.out) ?_
        simp only [List.flatMap_cons, List.flatMap_nil, List.drop_succ_cons, List.drop_zero, List.take_succ_cons, List.take_zero, List.cons_append, List.nil_append, List.append_nil]
        iterate 6 (first | (refine heads_load _ (by rfl) (fun w' hs => by obtain ⟨y0, y1, y2⟩ := hs; go_simp; try with_reducible rfl) rfl ?_; simp only [Act.put, List.setIfInBounds_toArray, List.set_cons_zero, List.set_cons_succ]) | (refine heads_pure _ (by rfl) (fun w' => by go_simp; try with_reducible rfl) ?_; simp only [Act.put, List.setIfInBounds_toArray, List.set_cons_zero, List.set_cons_succ]))
        refine heads_nil ?_
        refine stage_op 6 (by kernel_rfl) (L := #[true, true, true, true, true, true, true]) (by kernel_rfl) ?_
        simp only [List.drop_succ_cons, List.drop_zero, List.take_succ_cons, List.take_zero]
        refine wpList_mapUpdate_in _ rfl _ _ _ 81 rfl 9 87 law Tryz.underlying81 contR mb _ _ rfl (by first | exact MR.out | exact World.ownsMap.drew MR.out) (by have := HLN.out; unfold maxLen; omega) _ _ _ rfl rfl HKEY.out (.held (.agg #[.slice a5 n5 c5, .int .i64 n5])) [] (contR_mk _ _ _ _) ?_; intro w7 hown7 hturn7; have O7 := Lib.hid hown7; have T7 : Hid (w6.drew.mapTurned w7 mb) := Lib.hid hturn7; clear hown7 hturn7; go_wp2_with fail
        refine step_post nofun ?_
        refine stage_done (by kernel_rfl) ?_
        have DR : Below w6.heap.size w6 w6.drew := (Below.refl _ _).drew
        have L6 : wr.heap.size < w6.heap.size := Nat.lt_of_lt_of_le L5 K6.out.size
        have D7 : Hid (DiskIs w7 db mb tb { D with down := true, armed := -1, files := A ++ ⟨f.name, (f.all.take f.kept ++ tornL (f.all.drop f.kept) th), n5⟩ :: BQ }) := Lib.hid (by
          have hp : DiskIs w7 db mb tb { D with down := true, armed := -1, files := putFile ⟨f.name, (f.all.take f.kept ++ tornL (f.all.drop f.kept) th), n5⟩ (A ++ f :: BQ) } := DiskIs.put (f := ⟨f.name, (f.all.take f.kept ++ tornL (f.all.drop f.kept) th), n5⟩) (v := .agg #[.slice a5 n5 c5, .int .i64 n5]) (D6.out.below DR) (fun g hg => (FS.out g hg).below DR) O7.out T7.out (FI6.out.below DR)
          rw [put_mid (f' := ⟨f.name, (f.all.take f.kept ++ tornL (f.all.drop f.kept) th), n5⟩) HRS.out rfl] at hp
          exact hp)
        have NFM : Hid (¬ wr.heap.size = mb) := Lib.hid (fun e => NFO.out (.inr (.inl e)))
        have x70 : w7.cell? ⟨wr.heap.size, 0, none⟩ = some (.slice a5 n5 c5) := (Kept.of_turned T7.out).cell X6.out.1 NFM.out
        have HN7 : Hid ((f.all.take f.kept ++ tornL (f.all.drop f.kept) th).length = n5) := Lib.hid (by rw [List.length_append]; exact HN5.out)
        have KR7 : Hid (Kept wr w7 (fun k => Own3 db mb tb k ∨ k = w.heap.size)) := Lib.hid (by
          refine Kept.trans (b := w6) ?_ (((Kept.drew w6 _).trans (Kept.turned3 T7.out)).mono fun k _ h => .inl h)
          refine Kept.stepNew (b := w5) ?_ K6.out (Nat.le_refl _)
          exact (((Kept.of_below B1.out (S := fun k => k = w.heap.size) (fun k h1 h2 => by omega)).trans K3.out).trans ((Kept.of_below B4.out (fun k h1 h2 => by omega)).trans (Kept.of_below B5.out (fun k h1 h2 => by omega)))).mono fun k _ h => .inr h)
        obtain ⟨t3, ht31, ht32, ht33⟩ := TE3.out
        have LT3 : w.heap.size < u3.heap.size := lt_of_block ht31
        have TE7 : Hid (w7.heap[w.heap.size]? = some (.cells #[t3] 64 (0, 0)) ∧ (∃ a n c, t3 = .slice a n c) ∧ TearsIs w7 t3 T.tail ∧ (T.tail = [] ∨ ∀ b, t3.ownBlock = some b → ¬ (Own3 db mb tb b ∨ w.heap.size ≤ b))) := Lib.hid (by
          have k45 : Kept u3 w5 (fun _ => False) := (Kept.of_below B4.out (fun k h1 h2 => by omega)).trans (Kept.of_below B5.out (fun k h1 h2 => by omega))
          have k36 : Kept u3 w6 (fun k => k = wr.heap.size) := k45.andThen K6.out (fun k _ h => h.resolve_left id)
          have k67 : Kept w6 w7 (Own3 db mb tb) := (Kept.drew w6 _).trans (Kept.turned3 T7.out)
          have k37 : Kept u3 w7 (fun k => k = wr.heap.size ∨ Own3 db mb tb k) := k36.andThen k67 (fun k _ h => h)
          refine ⟨(k37.block _ LT3 (fun h => h.elim (fun e => NF.out e.symm) (fun e => NW.out e))).trans ht31, ?_, ht32.kept k37 (ht33.imp id fun h b hb e => h b hb (e.elim (fun e => .inr (by omega)) (fun e => .inl e))), ht33⟩
          obtain ⟨a', c', e, _⟩ := ht32.1.shape
          exact ⟨_, _, _, e⟩)
        have c07 := D7.out.c0
        have ldb7 := D7.out.lt
        clear ht31 ht32 ht33
        by_cases he : (f.all.take f.kept ++ tornL (f.all.drop f.kept) th) = []
        · have hb0 : ((n5 : Int) == 0) = true := by have := HN7.out; rw [he] at this; simp at this; simp [← this]
          have HC1 : Hid (crash1 f T = []) := Lib.hid (by rw [HCR1.out, if_pos he])
          obtain ⟨vals7, hmap, hfs⟩ := D7.out.fs
          have MR7 := Lib.hid hmap
          have FS7 := Lib.hid hfs
          clear hmap hfs he
          go_wp2_with (at_delete; refine wpList_delete_own _ rfl _ _ 81 9 rfl 87 law Tryz.underlying81 contR mb _ _ rfl MR7.out _ _ rfl HKEY.out ?_; intro w8 hown8 hturn8; have O8 := Lib.hid hown8; have T8 := Lib.hid hturn8; clear hown8 hturn8 x70 c07)
          go_roundw
          case rel =>
            have K8 : Kept w7 w8 (Own3 db mb tb) := Kept.turned3 T8.out
            have KR : Kept wr w8 (fun k => Own3 db mb tb k ∨ k = w.heap.size) := KR7.out.trans (K8.mono fun k _ h => .inl h)
            have hd := DiskIs.del (m := f.name) D7.out FS7.out O8.out T8.out
            rw [del_mid (f := ⟨f.name, (f.all.take f.kept ++ tornL (f.all.drop f.kept) th), n5⟩) (by obtain ⟨_, hm, _⟩ := D7.out.fs; exact hm.rising)] at hd
            refine ⟨k + 1, by omega, by go_num, ⟨by rw [HCR.out.1, HC1.out, ← HBQ.out, List.append_nil]; exact hd, ⟨t3, (K8.block _ (lt_of_block TE7.out.1) (fun e => NW.out e)).trans TE7.out.1, TE7.out.2.1, ?_, ?_⟩, NMR.out.kept KR (fun b hb e => HNO.out b hb e), KK.out.andThen KR fun k hk h => h.elim id (fun h => h.elim id (fun h => by omega))⟩⟩
            · rw [HCR.out.2, HT1.out]
              exact TE7.out.2.2.1.kept K8 (TE7.out.2.2.2.imp id fun h b hb e => h b hb (.inl e))
            · rw [HCR.out.2, HT1.out]
              exact TE7.out.2.2.2
          case measure => simp [intOf]; omega
        · have hb0 : ((n5 : Int) == 0) = false := by
            have := HN7.out
            have h0 : n5 ≠ 0 := fun e => he (List.eq_nil_of_length_eq_zero (this.trans e))
            simpa using h0
          have HC1 : Hid (crash1 f T = [⟨f.name, (f.all.take f.kept ++ tornL (f.all.drop f.kept) th), (f.all.take f.kept ++ tornL (f.all.drop f.kept) th).length⟩]) := Lib.hid (by rw [HCR1.out, if_neg he])
          clear he
          go_wp2_with fail
          go_roundw
          case rel =>
            refine ⟨k + 1, by omega, by go_num, ⟨by rw [HCR.out.1, HC1.out, HN7.out, ← HBQ.out, List.append_assoc]; exact D7.out, ⟨t3, TE7.out.1, TE7.out.2.1, ?_, ?_⟩, NMR.out.kept KR7.out (fun b hb e => HNO.out b hb e), KK.out.andThen KR7.out fun k hk h => h.elim id (fun h => h.elim id (fun h => by omega))⟩⟩
            · rw [HCR.out.2, HT1.out]
              exact TE7.out.2.2.1
            · rw [HCR.out.2, HT1.out]
              exact TE7.out.2.2.2
          case measure => simp [intOf]; omega
      · have hgt' : ¬ (f.kept : Int) < (f.all.length : Int) := by omega
        have B1 : Hid (Below wr.heap.size wr (wr.alloc (.cells #[.slice a f.all.length c, .int .i64 f.kept] 87))) := Lib.hid ((Below.refl _ _).alloc (Nat.le_refl _) _)
        have H1 := Lib.hid (HD.out.below B1.out)
        have KR1 : Hid (Kept wr (wr.alloc (.cells #[.slice a f.all.length c, .int .i64 f.kept] 87)) (fun k => Own3 db mb tb k ∨ k = w.heap.size)) := Lib.hid (Kept.of_below B1.out fun k h1 h2 => by omega)
        have HT1 : Hid (tears1 f T = T) := Lib.hid (if_neg hgt)
        by_cases he : f.all = []
        · have hb0 : ((f.all.length : Int) == 0) = true := by simp [he]
          have HC1 : Hid (crash1 f T = []) := Lib.hid (by unfold crash1; rw [if_neg hgt, if_pos he])
          obtain ⟨vals, hmap, hfs⟩ := H1.out.fs
          have MR := Lib.hid hmap
          have FS := Lib.hid hfs
          clear hmap hfs he
          go_wp2_with (at_delete; refine wpList_delete_own _ rfl _ _ 81 9 rfl 87 law Tryz.underlying81 contR mb _ _ rfl MR.out _ _ rfl HKEY.out ?_; intro w5 hown5 hturn5; have O5 := Lib.hid hown5; have T5 := Lib.hid hturn5; clear hown5 hturn5 c0 hnc hrun)
          go_roundw
          case rel =>
            have KR : Kept wr w5 (fun k => Own3 db mb tb k ∨ k = w.heap.size) := KR1.out.trans ((Kept.turned3 T5.out).mono fun k _ h => .inl h)
            have hd := DiskIs.del (m := f.name) H1.out FS.out O5.out T5.out
            rw [del_mid HRS.out] at hd
            refine ⟨k + 1, by omega, by go_num, ⟨by rw [HCR.out.1, HC1.out, ← HBQ.out, List.append_nil]; exact hd, ⟨_, (Kept.turned3 T5.out).block _ (Nat.lt_of_lt_of_le ltc B1.out.size) (fun e => NW.out e) |>.trans ((B1.out.block _ ltc).trans TC.out.1), ⟨_, _, _, rfl⟩, ?_, ?_⟩, NMR.out.kept KR (fun b hb e => HNO.out b hb e), KK.out.andThen KR fun k hk h => h.elim id (fun h => h.elim id (fun h => by omega))⟩⟩
            · rw [HCR.out.2, HT1.out]
              exact TC.out.2.1.kept KR (TC.out.2.2.imp id fun h b hb e => h b hb (e.imp id (fun e => by omega)))
            · rw [HCR.out.2, HT1.out]
              exact TC.out.2.2
          case measure => simp [intOf]; omega
        · have hb0 : ((f.all.length : Int) == 0) = false := by simpa using he
          have HC1 : Hid (crash1 f T = [f]) := Lib.hid (by unfold crash1; rw [if_neg hgt, if_neg he])
          clear he
          go_wp2_with fail
          go_roundw
          case rel =>
            refine ⟨k + 1, by omega, by go_num, ⟨by rw [HCR.out.1, HC1.out, ← HBQ.out, List.append_assoc]; exact H1.out, ⟨_, (B1.out.block _ ltc).trans TC.out.1, ⟨_, _, _, rfl⟩, ?_, ?_⟩, NMR.out.kept KR1.out (fun b hb e => HNO.out b hb e), KK.out.andThen KR1.out fun k hk h => h.elim id (fun h => h.elim id (fun h => by omega))⟩⟩
            · rw [HCR.out.2, HT1.out]
              exact TC.out.2.1.kept KR1.out (TC.out.2.2.imp id fun h b hb e => h b hb (e.imp id (fun e => by omega)))
            · rw [HCR.out.2, HT1.out]
              exact TC.out.2.2
          case measure => simp [intOf]; omega
    · obtain rfl : k = D.files.length := by omega
      go_wp2_with fail
      go_ret
      have hd := I.out.dsk
      rw [List.take_length, List.drop_length, List.append_nil] at hd
      exact ⟨rfl, hd, I.out.kept⟩
end Go.Proofs.YtofhccpagnkalaaGreat

/- The program's disk tells its files; contract; no conditions but the ranges. -/
namespace Go.Proofs.YtofhccpagnkalaaGreat
open Go.RowKit Go.Maps Go.Proofs.Own

theorem dfile3 : RowSlice Tryz.prog 107 110 3 64 := by
  obtain ⟨i0, hi, hz0, hz1, hz2⟩ := info_parts (show (Tryz.prog.info? 110).map (fun i => (i.zero, i.size, i.bytes)) = some (some (.agg #[.string ⟨#[]⟩, .slice none 0 0, .slice none 0 0]), 3, 64) by kernel_rfl)
  exact ⟨Tryz.underlying107, ⟨i0, _, hi, hz0, hz1, hz2, rfl⟩, by decide, by decide⟩
/-- A file as it is told: its name, its kept and its loose bytes. -/
def fiV (p : FileS × Value × Value) : List Value := [.string p.1.name, p.2.1, p.2.2]
structure FiOk (w : World) (B : Nat) (p : FileS × Value × Value) : Prop where
  k : Owns w B 5 .u8 p.2.1 (ints (p.1.all.take p.1.kept))
  l : Owns w B 5 .u8 p.2.2 (ints (p.1.all.drop p.1.kept))
theorem FiOk.kept {w w' : World} {B : Nat} {p : FileS × Value × Value} {S : Nat → Prop} (h : FiOk w B p) (hk : Kept w w' S) (h1 : ∀ b, p.2.1.ownBlock = some b → ¬ S b) (h2 : ∀ b, p.2.2.ownBlock = some b → ¬ S b) : FiOk w' B p := ⟨h.k.kept hk h1, h.l.kept hk h2⟩
theorem FiOk.below {w w' : World} {B : Nat} {p : FileS × Value × Value} (h : FiOk w B p) (hb : Below w.heap.size w w') : FiOk w' B p := ⟨h.k.below hb, h.l.below hb⟩
/-- Its blocks are not the list's own. -/
def FiA (v : Value) (p : FileS × Value × Value) : Prop := ∀ b, p.2.1.ownBlock = some b ∨ p.2.2.ownBlock = some b → v.ownBlock ≠ some b
theorem fiV_cells (w : World) (p : FileS × Value × Value) : ∀ j u, (fiV p)[j]? = some u → (w.alloc (.cells #[.string p.1.name, p.2.1, p.2.2] 110)).cell? ⟨w.heap.size, j, none⟩ = some u := by
  intro j u hu
  match j, hu with
  | 0, hu => obtain rfl : Value.string p.1.name = u := Option.some.inj hu; go_cell
  | 1, hu => obtain rfl : p.2.1 = u := Option.some.inj hu; go_cell
  | 2, hu => obtain rfl : p.2.2 = u := Option.some.inj hu; go_cell
theorem fiV_one {p : FileS × Value × Value} (h1 : p.2.1.oneCell' = true) (h2 : p.2.2.oneCell' = true) : ∀ u ∈ fiV p, u.oneCell' = true := by
  intro u hu
  simp only [fiV, List.mem_cons, List.not_mem_nil, or_false] at hu
  rcases hu with rfl | rfl | rfl
  · rfl
  · exact h1
  · exact h2
theorem find_at {L : List FileS} (h : Rising L) {j : Nat} (hj : j < L.length) : findFile L[j].name L = some L[j] := by
  have e : L.take j ++ L[j] :: L.drop (j + 1) = L := by rw [← List.drop_eq_getElem_cons hj, List.take_append_drop]
  generalize L[j] = f at e ⊢
  rw [← e] at h ⊢
  exact find_mid h
theorem DiskIs.byt {w : World} {db mb tb : Nat} {D : DiskS} (h : DiskIs w db mb tb D) : ∀ f ∈ D.files, (∀ c ∈ f.all, c < 256) ∧ f.all.length ≤ 2097152 := by
  obtain ⟨vals, _, hfs⟩ := h.fs
  intro f hf
  obtain ⟨_, _, _, hB, _⟩ := hfs f hf
  exact ⟨hB.lt, hB.small⟩
/-- How it stands ahead of the j-th file. -/
structure FiI (w1 : World) (L : List FileS) (j : Nat) (v : Value) (P : List (FileS × Value × Value)) (wr : World) : Prop where
  fst : P.map (·.1) = L.take j
  own : OwnR wr w1.heap.size 110 3 v (P.map fiV)
  each : ∀ p ∈ P, FiOk wr w1.heap.size p ∧ FiA v p
  bel : Below w1.heap.size w1 wr
theorem FiI.next {w1 wr wm w' : World} {L : List FileS} {j : Nat} {v v' k l : Value} {P : List (FileS × Value × Value)} (h : FiI w1 L j v P wr) (hj : j < L.length) (hb : Below wr.heap.size wr wm)
    (hk : Owns wm wr.heap.size 5 .u8 k (ints (L[j].all.take L[j].kept))) (hl : Owns wm wr.heap.size 5 .u8 l (ints (L[j].all.drop L[j].kept)))
    (ho : OwnR w' w1.heap.size 110 3 v' (P.map fiV ++ [fiV (L[j], k, l)])) (hg : wm.grownBy w' v.ownBlock) (hat : v'.ownBlock = v.ownBlock ∨ v'.ownBlock = some wm.heap.size) (hB : Below w1.heap.size wm w') : FiI w1 L (j + 1) v' (P ++ [(L[j], k, l)]) w' := by
  have hK := Kept.of_grown hg
  have hn : FiOk wm w1.heap.size (L[j], k, l) := ⟨hk.lower fun b e => Nat.le_trans h.bel.size (hk.lt b e).1, hl.lower fun b e => Nat.le_trans h.bel.size (hl.lt b e).1⟩
  have hlt : ∀ p b, FiOk wm w1.heap.size p → (p.2.1.ownBlock = some b ∨ p.2.2.ownBlock = some b) → b < wm.heap.size := fun p b hp e => e.elim (fun e => (hp.k.lt b e).2) fun e => (hp.l.lt b e).2
  have hA : FiA v (L[j], k, l) := fun b e ev => by
    have h1 := (h.own.lt b ev).2
    rcases e with e | e
    · have := (hk.lt b e).1; omega
    · have := (hl.lt b e).1; omega
  refine ⟨by rw [List.map_append, h.fst, List.take_succ_eq_append_getElem hj]; rfl, by rw [List.map_append]; exact ho, fun p hp => ?_, (h.bel.trans (hb.mono h.bel.size)).trans hB⟩
  have hall : FiOk wm w1.heap.size p ∧ FiA v p := by
    rcases List.mem_append.1 hp with hp | hp
    · exact ⟨(h.each p hp).1.below hb, (h.each p hp).2⟩
    · obtain rfl := List.mem_singleton.1 hp; exact ⟨hn, hA⟩
  refine ⟨hall.1.kept hK (fun b e e' => hall.2 b (.inl e) e') (fun b e e' => hall.2 b (.inr e) e'), fun b e ev => ?_⟩
  rcases hat with hat | hat
  · exact hall.2 b e (hat ▸ ev)
  · rw [hat] at ev
    have := hlt p b hall.1 e
    have := Option.some.inj ev
    omega

theorem FiI.drew {w1 wr : World} {L : List FileS} {j : Nat} {v : Value} {P : List (FileS × Value × Value)} (h : FiI w1 L j v P wr) : FiI w1 L j v P wr.drew :=
  have hb := (Below.refl wr.heap.size wr).drew
  ⟨h.fst, h.own.below hb, fun p hp => ⟨(h.each p hp).1.below hb, (h.each p hp).2⟩, h.bel.drew⟩

set_option maxHeartbeats 2000000 in
set_option maxRecDepth 20000 in
theorem dfiles_any (db mb tb : Nat) (D : DiskS) (w : World) (h : DiskIs w db mb tb D) (hw : DWf D) :
    Calls Tryz.prog 48 #[.pointer (some ⟨db, 0, none⟩)] w fun e w' => ∃ v, e = .returned v ∧ ∃ P : List (FileS × Value × Value), P.map (·.1) = D.files ∧ SRow w' 3 v (P.map fiV) ∧ (∀ p ∈ P, FiOk w' w.heap.size p) ∧ Below w.heap.size w w' := by
  have H := Lib.hid h
  have HW := Lib.hid hw
  have many := hw.many
  clear h hw
  go_enter Tryz.func48, Tryz.ntmps48
  go_wp2_with fail
  refine (dnames db mb tb D _ H.out HW.out).mono ?_
  rintro e w1 ⟨nv, rfl, hnv, hb1, hno⟩
  have NV := Lib.hid hnv
  have B1 := Lib.hid hb1
  have H1 := Lib.hid (H.out.below hb1)
  obtain ⟨an, cn, rfl, _⟩ := hnv
  have HNL : Hid ((List.map (fun f : FileS => f.name) D.files).length = D.files.length) := Lib.hid (List.length_map _)
  rw [HNL.out] at NV ⊢
  clear hb1 hno
  go_wp2_with fail
  go_loopw [2, 9] (fun lv y wr => ∃ j P, j ≤ D.files.length ∧ y = .int .i64 j ∧ FiI w1 D.files j lv P wr) (fun _ y _ => D.files.length - (intOf y).toNat)
  case atStart => exact ⟨0, [], Nat.zero_le _, rfl, rfl, OwnR.nil _ _ _ _, nofun, Below.refl _ _⟩
  case round =>
    obtain ⟨j, P, hj, rfl, hi⟩ := hrel
    have I := Lib.hid hi
    obtain ⟨la, lc, rfl⟩ := hi.own.shape
    by_cases hlt : j < D.files.length
    · have HNM : Hid (∃ b o, an = some ⟨b, o, none⟩ ∧ wr.cell? ⟨b, o + j, none⟩ = some (.string (D.files[j]).name)) := Lib.hid (by
        obtain ⟨a', c', e, hc⟩ := NV.out.below I.out.bel
        obtain ⟨b, o, e1, e2⟩ := hc j (by rw [List.length_map]; exact hlt)
        injection e with e3
        exact ⟨b, o, e3.trans e1, by rw [e2, List.getElem_map]⟩)
      obtain ⟨nb, no, rfl, hnc⟩ := HNM.out
      have HDr := Lib.hid (H1.out.below I.out.bel)
      have HRS : Hid (Rising D.files) := Lib.hid (by obtain ⟨_, hm, _⟩ := HDr.out.fs; exact hm.rising)
      have HEA : Hid ((D.files[j]).name.size ≤ 16 ∧ (D.files[j]).kept ≤ (D.files[j]).all.length) := Lib.hid (HW.out.each _ (List.getElem_mem hlt))
      obtain ⟨a, c, hrun, hfi⟩ := HDr.out.look (find_at HRS.out hlt) (by have := HEA.out.1; unfold maxLen; omega)
      have NX : ∀ (wm w' : World) (v' k l : Value), Below wr.heap.size wr wm → Owns wm wr.heap.size 5 .u8 k (ints ((D.files[j]).all.take (D.files[j]).kept)) → Owns wm wr.heap.size 5 .u8 l (ints ((D.files[j]).all.drop (D.files[j]).kept)) → OwnR w' w1.heap.size 110 3 v' (P.map fiV ++ [fiV (D.files[j], k, l)]) → wm.grownBy w' _ → (v'.ownBlock = _ ∨ v'.ownBlock = some wm.heap.size) → Below w1.heap.size wm w' → FiI w1 D.files (j + 1) v' (P ++ [(D.files[j], k, l)]) w' := fun wm w' v' k l x1 x2 x3 x4 x5 x6 x7 => I.out.next hlt x1 x2 x3 x4 x5 x6 x7
      have NXH := Lib.hid NX
      clear NX hi
      have c0 := HDr.out.c0
      have ldb : db < wr.heap.size := HDr.out.lt
      generalize D.files[j] = f at *
      have HB0 : Hid (Bytes wr (.slice a f.all.length c) f.all) := Lib.hid (by obtain ⟨a2, c2, e1, e2, _⟩ := hfi; cases e1; exact e2)
      obtain ⟨v1, hB1, hcut1⟩ := HB0.out.cuth Tryz.u8s f.kept HEA.out.2
      obtain ⟨v2, hB2, hcut2⟩ := HB0.out.cutl Tryz.u8s f.kept HEA.out.2
      have HL1 : Hid ((ints (f.all.take f.kept)).length ≤ 2097152) := Lib.hid (by rw [length_ints]; exact hB1.small)
      have HL2 : Hid ((ints (f.all.drop f.kept)).length ≤ 2097152) := Lib.hid (by rw [length_ints]; exact hB2.small)
      obtain ⟨n, hn⟩ : ∃ n, f.all.length = n := ⟨_, rfl⟩
      have HN := Lib.hid hn
      rw [hn] at hrun hcut1 hcut2
      have B3 : Hid (Below wr.heap.size wr (wr.alloc (.cells #[.slice a n c, .int .i64 f.kept] 87))) := Lib.hid ((Below.refl _ _).alloc (Nat.le_refl _) _)
      have HB1 := Lib.hid (hB1.alloc (.cells #[.slice a n c, .int .i64 f.kept] 87))
      have HB2 := Lib.hid (hB2.alloc (.cells #[.slice a n c, .int .i64 f.kept] 87))
      have OW := Lib.hid I.out.own
      have hlen : (P.map fiV).length = j := by
        have h1 := congrArg List.length I.out.fst
        rw [List.length_map, List.length_take] at h1
        rw [List.length_map]; omega
      have HLE : Hid ((P.map fiV).length ≤ 4294967296) := Lib.hid (by omega)
      have IB := Lib.hid I.out.bel
      rw [hlen] at OW NXH ⊢
      have j0 : (0 : Int) ≤ (j : Int) := by omega
      have j1 : (j : Int) < (D.files.length : Int) := by omega
      clear hfi hB1 hB2 hn hlen I
      go_wp2_with fail
      have X3' : ((wr.alloc (.cells #[.slice a n c, .int .i64 f.kept] 87)).cell? ⟨wr.heap.size, 0, none⟩ = some (.slice a n c) ∧ (wr.alloc (.cells #[.slice a n c, .int .i64 f.kept] 87)).cell? ⟨wr.heap.size, 1, none⟩ = some (.int .i64 f.kept)) := ⟨by go_cell, by go_cell⟩
      have L3' : wr.heap.size < (wr.alloc (.cells #[.slice a n c, .int .i64 f.kept] 87)).heap.size := by simp
      generalize World.alloc wr _ = w3 at *
      have X3 := Lib.hid X3'
      have L3 := L3'
      clear X3' L3'
      refine region_start [0, 0, 0, 4, 0, 16, 60, 124, 0, 256, 0, 1024, 3840, 8188, 16382, 32766, 65535, 131071] 128 (fun w' => w'.cell? ⟨wr.heap.size, 0, none⟩ = some (.slice a n c) ∧ w'.cell? ⟨wr.heap.size, 1, none⟩ = some (.int .i64 f.kept)) (by kernel_rfl) ?_
      refine stage_heads [0, 1, 2, 3, 4, 5, 6, 8, 9, 10, 11, 12] (by kernel_rfl) (L := #[true, true, true, true, true, true, true, false, true, true, true, true, true, false, false, false, false, false]) (by kernel_rfl) (f' := 6) rfl (fun _ _ _ _ h => h) (fun w o h => ((Stable.cell _ _).and (Stable.cell _ _)).alloc h o) (.inr (by exact X3.out)) ?_
      simp only [List.flatMap_cons, List.flatMap_nil, List.drop_succ_cons, List.drop_zero, List.take_succ_cons, List.take_zero, List.cons_append, List.nil_append, List.append_nil]
      iterate 12 (first | (refine heads_load _ (by rfl) (fun w' hs => by obtain ⟨y0, y1⟩ := hs; go_simp; try with_reducible rfl) rfl ?_; simp only [Act.put, List.setIfInBounds_toArray, List.set_cons_zero, List.set_cons_succ]) | (refine heads_pure _ (by rfl) (fun w' => by go_simp; try with_reducible rfl) ?_; simp only [Act.put, List.setIfInBounds_toArray, List.set_cons_zero, List.set_cons_succ]))
      refine heads_nil ?_
      refine stage_op 7 (by kernel_rfl) (L := #[true, true, true, true, true, true, true, true, true, true, true, true, true, false, false, false, false, false]) (by kernel_rfl) ?_
      simp only [List.drop_succ_cons, List.drop_zero, List.take_succ_cons, List.take_zero]
      go_wp2_with fail; refine (bclone _ _ _ (by exact HB1.out.rd) HL1.out).mono ?_; rintro e u4 ⟨k1, rfl, hk1, hb4⟩; have B4 : Hid (Below w3.heap.size w3 u4) := Lib.hid (by first | exact hb4 | exact ((Below.refl _ _).drew).trans hb4); have K1 : Hid (Owns u4 w3.heap.size 5 .u8 k1 (ints (f.all.take f.kept))) := Lib.hid (by exact hk1); have L4 : Hid (wr.heap.size < u4.heap.size) := Lib.hid (Nat.lt_of_lt_of_le L3 B4.out.size); have X4 : Hid (u4.cell? ⟨wr.heap.size, 0, none⟩ = some (.slice a n c) ∧ u4.cell? ⟨wr.heap.size, 1, none⟩ = some (.int .i64 f.kept)) := Lib.hid (by exact ⟨Below.at B4.out X3.out.1 L3, Below.at B4.out X3.out.2 L3⟩); obtain ⟨k1a, k1c, rfl⟩ := hk1.shape; clear hk1 hb4; go_wp2_with fail
      refine step_post (fun _ => X4.out) ?_
      refine stage_op 13 (by kernel_rfl) (L := #[true, true, true, true, true, true, true, true, true, true, true, true, true, true, false, false, false, false]) (by kernel_rfl) ?_
      simp only [List.drop_succ_cons, List.drop_zero, List.take_succ_cons, List.take_zero]
      go_wp2_with fail; refine (bclone _ _ _ (by exact HB2.out.rd.below B4.out) HL2.out).mono ?_; rintro e u5 ⟨k2, rfl, hk2, hb5⟩; have B5 : Hid (Below u4.heap.size u4 u5) := Lib.hid (by first | exact hb5 | exact ((Below.refl _ _).drew).trans hb5); have K2 : Hid (Owns u5 u4.heap.size 5 .u8 k2 (ints (f.all.drop f.kept))) := Lib.hid (by exact hk2); obtain ⟨k2a, k2c, rfl⟩ := hk2.shape; have HBS : Hid (∀ o, w1.heap.size ≤ (u5.alloc o).heap.size) := Lib.hid (fun o => by have h1 := IB.out.size; have h2 := B3.out.size; have h3 := B4.out.size; have h4 := B5.out.size; simp only [World.size_alloc]; omega); clear hk2 hb5; go_wp2_with fail
      refine step_post nofun ?_
      refine stage_heads [14] (by kernel_rfl) (L := #[true, true, true, true, true, true, true, true, true, true, true, true, true, true, true, false, false, false]) (by kernel_rfl) (f' := 3) rfl (fun _ _ _ _ h => h) (fun w o h => ((Stable.cell _ _).and (Stable.cell _ _)).alloc h o) (.inl (by kernel_rfl)) ?_
      simp only [List.flatMap_cons, List.flatMap_nil, List.drop_succ_cons, List.drop_zero, List.take_succ_cons, List.take_zero, List.append_nil]
      iterate 1 (refine heads_pure _ (by rfl) (fun w' => by go_simp; try with_reducible rfl) ?_; simp only [Act.put, List.setIfInBounds_toArray, List.set_cons_zero, List.set_cons_succ])
      refine heads_nil ?_
      refine stage_op 15 (by kernel_rfl) (L := #[true, true, true, true, true, true, true, true, true, true, true, true, true, true, true, true, false, false]) (by kernel_rfl) ?_
      simp only [List.drop_succ_cons, List.drop_zero, List.take_succ_cons, List.take_zero]
      go_wp2_with fail
      refine step_post nofun ?_
      refine stage_op 16 (by kernel_rfl) (L := #[true, true, true, true, true, true, true, true, true, true, true, true, true, true, true, true, true, false]) (by kernel_rfl) ?_
      simp only [List.drop_succ_cons, List.drop_zero, List.take_succ_cons, List.take_zero]
      refine wpList_append_row dfile3 _ _ rfl w1.heap.size _ (P.map fiV) _ (fiV (f, .slice k1a (ints (f.all.take f.kept)).length k1c, .slice k2a (ints (f.all.drop f.kept)).length k2c)) rfl rfl (by exact (OW.out.below B3.out).below ((B4.out.trans (B5.out.mono B4.out.size)).trans (Below.refl _ _)) |>.alloc _) rfl (by exact fiV_cells _ _) (fiV_one rfl rfl) (by exact HLE.out) (by exact HBS.out _) rfl ?_; intro v7 w7 ho7 hg7 hat7 hb7; have N7 := Lib.hid (NXH.out _ _ _ _ _ (((B3.out.trans (B4.out.mono B3.out.size)).trans (B5.out.mono (Nat.le_trans B3.out.size B4.out.size))).alloc (by have h2 := B3.out.size; have h3 := B4.out.size; have h4 := B5.out.size; omega) _) (((K1.out.lower fun b e => Nat.le_trans B3.out.size (K1.out.lt b e).1).below B5.out).alloc _) ((K2.out.lower fun b e => Nat.le_trans B3.out.size (Nat.le_trans B4.out.size (K2.out.lt b e).1)).alloc _) ho7 hg7 hat7 hb7); clear ho7 hg7 hat7 hb7; go_wp2_with fail
      refine step_post nofun ?_
      refine stage_heads [17] (by kernel_rfl) (L := #[true, true, true, true, true, true, true, true, true, true, true, true, true, true, true, true, true, true]) (by kernel_rfl) (f' := 0) rfl (fun _ _ _ _ h => h) (fun w o h => ((Stable.cell _ _).and (Stable.cell _ _)).alloc h o) (.inl (by kernel_rfl)) ?_
      simp only [List.flatMap_cons, List.flatMap_nil, List.drop_succ_cons, List.drop_zero, List.take_succ_cons, List.take_zero, List.append_nil]
      iterate 1 (refine heads_pure _ (by rfl) (fun w' => by go_simp; try with_reducible rfl) ?_; simp only [Act.put, List.setIfInBounds_toArray, List.set_cons_zero, List.set_cons_succ])
      refine heads_nil ?_
      refine stage_done (by kernel_rfl) ?_
      go_wp2_with fail
      go_roundw
      case rel => exact ⟨j + 1, _, by omega, by first | rfl | go_num, by first | exact N7.out | exact N7.out.drew⟩
      case measure => simp [intOf]; omega
    · have hje : j = D.files.length := by omega
      subst hje
      have hfst := I.out.fst
      rw [List.take_length] at hfst
      have j1 : ¬ (D.files.length : Int) < (D.files.length : Int) := by omega
      clear hi
      go_wp2_with fail
      go_ret
      have hsz := B1.out.size
      have HO := SRow.of_own I.out.own
      rw [List.length_map] at HO
      refine ⟨.slice la P.length lc, rfl, P, hfst, HO, fun p1 p2 p3 hp => ⟨?_, ?_⟩, B1.out.trans (I.out.bel.mono hsz)⟩
      · exact (I.out.each _ hp).1.k.lower fun b e => Nat.le_trans hsz ((I.out.each _ hp).1.k.lt b e).1
      · exact (I.out.each _ hp).1.l.lower fun b e => Nat.le_trans hsz ((I.out.each _ hp).1.l.lt b e).1
end Go.Proofs.YtofhccpagnkalaaGreat
