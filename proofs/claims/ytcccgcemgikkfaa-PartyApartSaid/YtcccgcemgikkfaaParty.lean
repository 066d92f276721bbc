/- Contracts of the program's package party; no conditions but the lengths. -/
import Derived.Test.YtcccgcemgikkfaaRef2
import Derived.Test.YtcccgcemgikkfaaPlan
import Derived.Deep.DeepCutAuto
namespace Go.Proofs.Ytcccgcemgikkfaa
open Go.RowKit Go.Maps Go.Proofs.Own

theorem law23 : Keyed Try.prog 23 := int_keyed Try.underlying23
theorem zero3 (w : World) : (zeroValue 3).run Try.prog w = .ok (.int .i64 0) w := by kernel_rfl

theorem none_nil (w : World) : Calls Try.prog 29 #[.pointer none] w fun e w' => e = .returned (.bool true) ∧ w = w' := by
  go_enter Try.func29, Try.ntmps29
  go_wp2
  go_ret
  exact ⟨rfl, rfl⟩
theorem none_ptr (b : Nat) (m : Option Nat) (w : World) (c1 : w.cell? ⟨b, 1, none⟩ = some (.map m)) : Calls Try.prog 29 #[.pointer (some ⟨b, 0, none⟩)] w fun e w' => e = .returned (.bool m.isNone) ∧ w = w' := by
  have h0 := fun w => run_eql_map_nil (P := Try.prog) w 44 23 3 m Try.underlying44
  go_enter Try.func29, Try.ntmps29
  go_wp2
  go_ret
  exact ⟨rfl, rfl⟩

/-- A party in memory: its block b, its map's block, its row: F. -/
structure PartyAt (w : World) (b bm n : Nat) (D : DataW Unit) (v : Value) (F : Nat → Prop) (num : Int) (l : List Int) : Prop where
  c0 : w.cell? ⟨b, 0, none⟩ = some (.int .i64 num)
  c1 : w.cell? ⟨b, 1, none⟩ = some (.map (some bm))
  c2 : w.cell? ⟨b, 2, none⟩ = some v
  f2 : w.frozen? ⟨b, 2, none⟩ = false
  map : w.ownsMap Try.prog 23 (plainElem Try.prog 3) bm n D
  nl : n ≤ l.length
  look : ∀ id, (Lit.int .u64 id).wf = true → D.atKey (.int .u64 id) (.lit (.int .i64 0)) = .lit (.int .i64 (l.count id : Nat))
  row : Owns w 0 23 .u64 v (dd l)
  wf : ∀ x ∈ l, (Lit.int .u64 x).wf = true
  fb : F b
  fm : F bm
  fv : ∀ g, v.ownBlock = some g → F g
  nb : bm ≠ b
  nv : ∀ g, v.ownBlock = some g → g ≠ b ∧ g ≠ bm
def PartyIs (w : World) (b : Nat) (F : Nat → Prop) (num : Int) (l : List Int) : Prop := ∃ bm n D v, PartyAt w b bm n D v F num l

theorem PartyIs.kept {w w' : World} {b : Nat} {F S : Nat → Prop} {num : Int} {l : List Int} (h : PartyIs w b F num l) (hk : Kept w w' S) (hd : ∀ k, F k → ¬ S k) : PartyIs w' b F num l := by
  obtain ⟨bm, n, D, v, h⟩ := h
  have hb := hd b h.fb
  refine ⟨bm, n, D, v, hk.cell h.c0 hb, hk.cell h.c1 hb, hk.cell h.c2 hb, ?_, ?_, h.nl, h.look, h.row.kept hk (fun g hg => hd g (h.fv g hg)), h.wf, h.fb, h.fm, h.fv, h.nb, h.nv⟩
  · rw [hk.frozen (World.block_lt_of_cell? _ _ h.c2) hb]; exact h.f2
  · obtain ⟨es, clock, hh, r⟩ := h.map
    exact ⟨es, clock, by rw [hk.block bm (Array.getElem?_eq_some_iff.1 hh).1 (hd bm h.fm)]; exact hh, r⟩
theorem PartyIs.below {w w' : World} {b : Nat} {F : Nat → Prop} {num : Int} {l : List Int} (h : PartyIs w b F num l) (hb : Below w.heap.size w w') : PartyIs w' b F num l :=
  h.kept (Kept.of_below hb (S := fun _ => False) fun k h1 h2 => by omega) fun _ _ h => h

theorem i64_inj {a b : Int} (h : (DataW.lit (.int .i64 a) : DataW Unit) = .lit (.int .i64 b)) : a = b := by simpa using h

theorem ptimes0 (b bm n : Nat) (D : DataW Unit) (id : Int) (l : List Int) (w : World) (c1 : w.cell? ⟨b, 1, none⟩ = some (.map (some bm))) (hmap : w.ownsMap Try.prog 23 (plainElem Try.prog 3) bm n D)
    (hlook : ∀ id, (Lit.int .u64 id).wf = true → D.atKey (.int .u64 id) (.lit (.int .i64 0)) = .lit (.int .i64 (l.count id : Nat))) (hid : (Lit.int .u64 id).wf = true) :
    Calls Try.prog 10 #[.pointer (some ⟨b, 0, none⟩), .int .u64 id] w fun e w' => e = .returned (.int .i64 (l.count id)) ∧ w = w' := by
  have hkey := keyOf_int_mk Try.underlying23 hid
  have HL := Lib.hid hlook
  clear hlook
  go_enter Try.func10, Try.ntmps10
  go_wp2_with (first
    | (go_at_call 29; refine (none_ptr b (some bm) _ c1).mono ?_; rintro e w' ⟨rfl, rfl⟩)
    | (at_lookup; refine wpList_lookup_own_int _ rfl _ _ 44 rfl 23 3 .i64 law23 Try.underlying44 Try.underlying3 (zero3 _) bm n D rfl hmap _ _ rfl hkey ?_; intro c hat hwc))
  go_ret
  exact ⟨ret_int (i64_inj ((HL.out id hid).symm.trans hat)).symm, rfl⟩

theorem ptimes (b : Nat) (F : Nat → Prop) (num id : Int) (l : List Int) (w : World) (hp : PartyIs w b F num l) (hid : (Lit.int .u64 id).wf = true) :
    Calls Try.prog 10 #[.pointer (some ⟨b, 0, none⟩), .int .u64 id] w fun e w' => e = .returned (.int .i64 (l.count id)) ∧ w = w' := by
  obtain ⟨bm, n, D, v, hp⟩ := hp
  exact ptimes0 b bm n D id l w hp.c1 hp.map hp.look hid

/-- slices.Clone at []uint64 -/
theorem sclone (v : Value) (zs : List Int) (w : World) (hr : Reads w .u64 v zs) (hl : zs.length ≤ 1000000) :
    Calls Try.prog 30 #[v] w fun e w' => ∃ v', e = .returned v' ∧ Owns w' w.heap.size 23 .u64 v' zs ∧ Below w.heap.size w w' := by
  have HR := Lib.hid hr
  obtain ⟨a, c, rfl, hc⟩ := hr
  have h0 := fun w => Lib.run_eql_slice_nil (P := Try.prog) w 27 23 a zs.length c 0 0 Try.underlying27
  clear hc
  cases a with
  | none =>
    have hz : zs = [] := by
      obtain ⟨a', c', h, hc⟩ := HR.out
      rcases zs with _ | ⟨z, zs⟩
      · rfl
      · obtain ⟨b, o, e, _⟩ := hc 0 (by simp)
        subst e
        cases h
    subst hz
    clear h0
    have h0 := fun w => Lib.run_eql_slice_nil (P := Try.prog) w 27 23 none 0 c 0 0 Try.underlying27
    go_enter Try.func30, Try.ntmps30
    go_wp2
    go_ret
    exact ⟨_, rfl, Owns.nil _ _ _ _, Below.refl _ _⟩
  | some ad =>
    go_enter Try.func30, Try.ntmps30
    go_wp2_with (at_builtin; refine wpList_append_ints Try.u64s _ _ rfl w.heap.size (.slice (some ⟨w.heap.size, 0, none⟩) 0 0) (.slice (some ad) zs.length c) [] zs rfl rfl (Owns.empty (heap_alloc_new _ _) (Nat.le_refl _)) (HR.out.alloc _) (by decide) (by simp; omega) (by simp) rfl ?_; intro v2 w2 hown2 hgr2 hat2 hnil2 hbel2)
    go_ret
    exact ⟨_, rfl, hown2, ((Below.refl _ _).alloc (Nat.le_refl _) _).trans hbel2⟩

theorem pdid (b : Nat) (F : Nat → Prop) (num : Int) (l : List Int) (w : World) (hp : PartyIs w b F num l) (hl : l.length ≤ 1000000) :
    Calls Try.prog 14 #[.pointer (some ⟨b, 0, none⟩)] w fun e w' => ∃ v, e = .returned v ∧ Owns w' w.heap.size 23 .u64 v (dd l) ∧ Below w.heap.size w w' := by
  obtain ⟨bm, n, D, v, hp⟩ := hp
  have c1 := hp.c1
  have c2 := hp.c2
  have hrow := Lib.hid hp.row.reads
  have hdl := length_dd l
  clear hp
  go_enter Try.func14, Try.ntmps14
  go_wp2_with (first
    | (go_at_call 29; refine (none_ptr b (some bm) _ c1).mono ?_; rintro e w' ⟨rfl, rfl⟩)
    | (go_at_call 30; refine (sclone v (dd l) _ hrow.out (by omega)).mono ?_; rintro e w' ⟨v', rfl, hown, hbl⟩))
  go_ret
  exact ⟨_, rfl, hown, hbl⟩

theorem pdid_nil (w : World) : Calls Try.prog 14 #[.pointer none] w fun e w' => e = .returned (.slice none 0 0) ∧ w = w' := by
  go_enter Try.func14, Try.ntmps14
  go_wp2_with (go_at_call 29; refine (none_nil _).mono ?_; rintro e w' ⟨rfl, rfl⟩)
  go_ret
  exact ⟨rfl, rfl⟩
theorem pdid_none (b : Nat) (w : World) (c1 : w.cell? ⟨b, 1, none⟩ = some (.map none)) : Calls Try.prog 14 #[.pointer (some ⟨b, 0, none⟩)] w fun e w' => e = .returned (.slice none 0 0) ∧ w = w' := by
  go_enter Try.func14, Try.ntmps14
  go_wp2_with (go_at_call 29; refine (none_ptr b none _ c1).mono ?_; rintro e w' ⟨rfl, rfl⟩)
  go_ret
  exact ⟨rfl, rfl⟩
theorem ptimes_nil (id : Int) (w : World) : Calls Try.prog 10 #[.pointer none, .int .u64 id] w fun e w' => e = .returned (.int .i64 0) ∧ w = w' := by
  go_enter Try.func10, Try.ntmps10
  go_wp2_with (go_at_call 29; refine (none_nil _).mono ?_; rintro e w' ⟨rfl, rfl⟩)
  go_ret
  exact ⟨rfl, rfl⟩
theorem ptimes_none (b : Nat) (id : Int) (w : World) (c1 : w.cell? ⟨b, 1, none⟩ = some (.map none)) : Calls Try.prog 10 #[.pointer (some ⟨b, 0, none⟩), .int .u64 id] w fun e w' => e = .returned (.int .i64 0) ∧ w = w' := by
  go_enter Try.func10, Try.ntmps10
  go_wp2_with (go_at_call 29; refine (none_ptr b none _ c1).mono ?_; rintro e w' ⟨rfl, rfl⟩)
  go_ret
  exact ⟨rfl, rfl⟩

/-- The greatest number of times among the first k that were done. -/
def pmostTo (l : List Int) (k : Nat) : Nat := (((dd l).take k).map fun x => l.count x).foldl max 0
theorem pmostTo_succ (l : List Int) (k : Nat) (h : k < (dd l).length) : pmostTo l (k + 1) = max (pmostTo l k) (l.count (dd l)[k]) := by
  unfold pmostTo; rw [List.take_succ_eq_append_getElem h, max_snoc]
theorem pmostTo_le (l : List Int) (k : Nat) : pmostTo l k ≤ l.length := by
  refine foldl_max_le _ _ (fun y hy => ?_) 0 (Nat.zero_le _)
  obtain ⟨x, _, rfl⟩ := List.mem_map.1 hy
  exact List.count_le_length
theorem mem_foldl_dd (l : List Int) : ∀ acc (x : Int), x ∈ l.foldl ddStep acc ↔ x ∈ acc ∨ x ∈ l := by
  induction l with
  | nil => intro acc x; simp
  | cons y l ih =>
    intro acc x
    rw [List.foldl_cons, ih]
    unfold ddStep
    split
    · simp [or_assoc]
    · rename_i h
      have hy : y ∈ acc := List.count_pos_iff.1 (by omega)
      constructor
      · rintro (h | h)
        · exact .inl h
        · exact .inr (by simp [h])
      · rintro (h | h)
        · exact .inl h
        · rcases List.mem_cons.1 h with rfl | h
          · exact .inl hy
          · exact .inr h
theorem mem_dd (l : List Int) (x : Int) : x ∈ dd l ↔ x ∈ l := by simp [dd, mem_foldl_dd]
theorem le_foldl_max (l : List Nat) : ∀ a, a ≤ l.foldl max a ∧ ∀ x ∈ l, x ≤ l.foldl max a := by
  induction l with
  | nil => intro a; simp
  | cons y l ih =>
    intro a
    obtain ⟨h1, h2⟩ := ih (max a y)
    refine ⟨by simp only [List.foldl_cons]; omega, fun x hx => ?_⟩
    rcases List.mem_cons.1 hx with rfl | hx
    · simp only [List.foldl_cons]; omega
    · exact h2 x hx
theorem pmost_eq (l : List Int) : pmostTo l (dd l).length = most l := by
  have hl : pmostTo l (dd l).length = ((dd l).map fun x => l.count x).foldl max 0 := by simp [pmostTo]
  rw [hl]
  apply Nat.le_antisymm
  · refine foldl_max_le _ _ (fun y hy => ?_) 0 (Nat.zero_le _)
    obtain ⟨x, hx, rfl⟩ := List.mem_map.1 hy
    exact (le_foldl_max _ 0).2 _ (List.mem_map.2 ⟨x, (mem_dd l x).1 hx, rfl⟩)
  · refine foldl_max_le _ _ (fun y hy => ?_) 0 (Nat.zero_le _)
    obtain ⟨x, hx, rfl⟩ := List.mem_map.1 hy
    exact (le_foldl_max _ 0).2 _ (List.mem_map.2 ⟨x, (mem_dd l x).2 hx, rfl⟩)

set_option maxHeartbeats 1000000 in
theorem pmost (b : Nat) (F : Nat → Prop) (num : Int) (l : List Int) (w : World) (hp : PartyIs w b F num l) (hl : l.length ≤ 1000000) :
    Calls Try.prog 16 #[.pointer (some ⟨b, 0, none⟩)] w fun e w' => e = .returned (.int .i64 (most l)) ∧ Below w.heap.size w w' := by
  have HP := Lib.hid hp
  have hdl := length_dd l
  have hbs : b < w.heap.size := by obtain ⟨_, _, _, _, h⟩ := hp; exact World.block_lt_of_cell? _ _ h.c0
  clear hp
  go_enter Try.func16, Try.ntmps16
  go_wp2_with fail
  refine (pdid b F num l _ HP.out hl).mono ?_
  rintro e w1 ⟨v, rfl, hown, hbl⟩
  obtain ⟨a, c, rfl⟩ := hown.shape
  obtain ⟨a', c', hsh, hc⟩ := hown.reads
  obtain ⟨rfl, rfl⟩ : a' = a ∧ c' = c := by simp at hsh; exact ⟨hsh.1.symm, hsh.2.symm⟩
  obtain ⟨bm, n, D, v, hp⟩ := HP.out.below hbl
  have c1 := hp.c1
  have hmap := hp.map
  have HP1 := Lib.hid hp
  have HB := Lib.hid hbl
  clear hp hbl hown hsh
  go_wp2
  go_loopw [2, 8] (fun m i wr => ∃ k : Nat, k ≤ (dd l).length ∧ i = .int .i64 k ∧ m = .int .i64 (pmostTo l k) ∧ wr = w1) (fun _ i _ => (dd l).length - (intOf i).toNat)
  case atStart => exact ⟨0, Nat.zero_le _, rfl, rfl, rfl⟩
  case round =>
    obtain ⟨k, hk, rfl, rfl, rfl⟩ := hrel
    have hmk := pmostTo_le l k
    by_cases hlt : k < (dd l).length
    · obtain ⟨b', o', rfl, hcell⟩ := hc k hlt
      have hwf := HP1.out.wf _ ((mem_dd l _).1 (List.getElem_mem hlt))
      have hkey := keyOf_int_mk Try.underlying23 hwf
      have hcl : l.count (dd l)[k] ≤ l.length := List.count_le_length
      have HS := Lib.hid (pmostTo_succ l k hlt)
      go_wp2_with (at_lookup; refine wpList_lookup_own_int _ rfl _ _ 44 rfl 23 3 .i64 law23 Try.underlying44 Try.underlying3 (zero3 _) bm n D rfl hmap _ _ rfl hkey ?_; intro c3 hat hwc)
      have hcc := i64_inj ((HP1.out.look _ hwf).symm.trans hat)
      clear hat hwc
      subst hcc
      go_roundw
      case rel =>
        refine ⟨k + 1, by omega, by go_num, ?_, trivial⟩
        rw [HS.out]
        split
        · rw [Nat.max_eq_right (by omega)]
        · rw [Nat.max_eq_left (by omega)]
      case measure => simp [intOf]; omega
    · go_wp2
      go_ret
      obtain rfl : k = (dd l).length := by omega
      exact ⟨ret_int (by rw [pmost_eq]), HB.out⟩

theorem pnew (num : Int) (w : World) (h0 : 0 ≤ num) (h8 : num < 8) :
    Calls Try.prog 7 #[.int .i64 num] w fun e w' => ∃ b, e = .returned (.pointer (some ⟨b, 0, none⟩)) ∧ w.heap.size ≤ b ∧ PartyIs w' b (fun k => w.heap.size ≤ k) num [] ∧ Below w.heap.size w w' := by
  have hmm := @run_makeMap Try.prog
  go_enter Try.func7, Try.ntmps7
  go_wp2
  go_ret
  refine ⟨_, rfl, ?_, ⟨w.heap.size, 0, .map [], .slice none 0 0, ?_⟩, ((Below.refl _ _).alloc (Nat.le_refl _) _).alloc (by simp) _⟩
  · simp
  · refine ⟨by go_cell, by go_cell, by go_cell, by simp [go_sem], (World.ownsMap_made _ _ _ _).alloc _, Nat.le_refl _, fun id _ => ?_, Owns.nil _ _ _ _, nofun, ?_, Nat.le_refl _, nofun, ?_, nofun⟩
    · simp [DataW.atKey]
    · simp
    · simp

theorem pnew_bad (num : Int) (w : World) (h : num < 0 ∨ 8 ≤ num) : Calls Try.prog 7 #[.int .i64 num] w fun e w' => e = .returned (.pointer none) ∧ w = w' := by
  rcases h with h | h
  · go_enter Try.func7, Try.ntmps7
    go_wp2
    go_ret
    exact ⟨rfl, rfl⟩
  · have h' : ¬ num < 0 := by omega
    go_enter Try.func7, Try.ntmps7
    go_wp2
    go_ret
    exact ⟨rfl, rfl⟩
end Go.Proofs.Ytcccgcemgikkfaa
