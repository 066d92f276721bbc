/- Several texts in one: Vp, Crash, Fi. What each proves stands ahead of it; together they serve sopens_law_holds. No conditions but those stated. -/
import Derived.Test.YtofhccpagnkalaaGreatSob16
import Derived.Test.YtofhccpagnkalaaGreatSob24
import Derived.Lib.AppendStr
import Derived.Test.YtofhccpagnkalaaGreatSob15
import Derived.Test.YtofhccpagnkalaaGreatSob7
import Derived.Test.YtofhccpagnkalaaGreatSob23
/- A torn frame: whole, or no frame; plain. -/
namespace Go.Proofs.YtofhccpagnkalaaGreat
open Go.RowKit Go.Maps Go.Proofs.Own

theorem split3 (q : List Nat) (h : 3 ≤ q.length) : ∃ A x y z, q = A ++ [x, y, z] ∧ A.length + 3 = q.length := by
  have h1 : (q.drop (q.length - 3)).length = 3 := by rw [List.length_drop]; omega
  match e : q.drop (q.length - 3), h1 with
  | [x, y, z], _ =>
    refine ⟨q.take (q.length - 3), x, y, z, ?_, by rw [List.length_take]; omega⟩
    rw [← e, List.take_append_drop]
theorem xorAt_app (A L : List Nat) (i v : Nat) : xorAt (A ++ L) (A.length + i) v = A ++ xorAt L i v := by
  unfold xorAt
  rw [getD_app, List.set_append_right (h := by omega), Nat.add_sub_cancel_left]
theorem tornTo3 (A : List Nat) (x y z t : Nat) : tornTo (A ++ [x, y, z]) t 3 = A ++ [x ^^^ (t / 2 ^ 16 % 256), y ^^^ (t / 2 ^ 8 % 256), z ^^^ (t / 2 ^ 0 % 256)] := by
  have hl : (A ++ [x, y, z]).length - 3 = A.length := by simp
  show xorAt (xorAt (xorAt (A ++ [x, y, z]) ((A ++ [x, y, z]).length - 3 + 0) (t / 2 ^ 16 % 256)) ((A ++ [x, y, z]).length - 3 + 1) (t / 2 ^ 8 % 256)) ((A ++ [x, y, z]).length - 3 + 2) (t / 2 ^ 0 % 256) = _
  rw [hl, xorAt_app, xorAt_app, xorAt_app]
  rfl
theorem be3_inj {a b c x y z : Nat} (hb : b < 256) (hc : c < 256) (hy : y < 256) (hz : z < 256) (h : be3 a b c = be3 x y z) : a = x ∧ b = y ∧ c = z := by
  unfold be3 at h
  omega
theorem getD_left (A B : List Nat) (j : Nat) (h : j < A.length) : (A ++ B).getD j 0 = A.getD j 0 := by
  rw [List.getD_eq_getElem?_getD, List.getD_eq_getElem?_getD, List.getElem?_append_left h]
theorem getD_at (A : List Nat) (x y z : Nat) : (A ++ [x, y, z]).getD A.length 0 = x ∧ (A ++ [x, y, z]).getD (A.length + 1) 0 = y ∧ (A ++ [x, y, z]).getD (A.length + 2) 0 = z := by
  have h := fun j => getD_app A [x, y, z] j
  exact ⟨by have := h 0; rwa [Nat.add_zero] at this, h 1, h 2⟩
/-- Whole or none: of a frame's loose bytes a crash leaves all as they were, or no frame. -/
theorem torn_frame {k : Nat} {l : List Nat} (hk : k ≠ 0) (hl : l.length ≤ 65536) (hb : ∀ c ∈ frP k l, c < 256) (t : Nat × Nat) (h : takeE (tornL (frP k l) t) = 0) : tornL (frP k l) t = frP k l := by
  have hF : (frP k l).length = l.length + 8 := length_frP k l
  have hN : frN (frP k l) = l.length := by have := frN_round k l []; rwa [List.append_nil] at this
  have hT : takeE (frP k l) = 0 := by have := takeE_round (k := k) (l := l) [] hk hl; rwa [List.append_nil] at this
  generalize frP k l = F at *
  obtain ⟨p, hp⟩ : ∃ p, t.1 % (F.length + 1) = p := ⟨_, rfl⟩
  have hple : p ≤ F.length := by rw [← hp]; exact Nat.le_of_lt_succ (Nat.mod_lt _ (by omega))
  have hq : (F.take p).length = p := by rw [List.length_take]; omega
  have hs0 : ∀ L : List Nat, takeE L = 0 → sizeE L = 0 := fun L g => by
    false_or_by_contra
    rename_i h2
    unfold takeE at g
    rw [if_pos h2] at g
    exact h2 g
  have hS := sizeE_len (hs0 _ h)
  unfold tornL at h hS ⊢
  rw [hp, hq] at h hS ⊢
  by_cases h3 : 3 ≤ p
  · rw [if_pos h3] at h hS ⊢
    rw [length_tornTo, hq] at hS
    obtain ⟨A, x, y, z, hA, hAl⟩ := split3 (F.take p) (by rw [hq]; exact h3)
    rw [hq] at hAl
    rw [hA, tornTo3] at h hS ⊢
    generalize hx : x ^^^ (t.2 / 2 ^ 16 % 256) = x' at *
    generalize hy : y ^^^ (t.2 / 2 ^ 8 % 256) = y' at *
    generalize hz : z ^^^ (t.2 / 2 ^ 0 % 256) = z' at *
    have hin : ∀ c ∈ F.take p, c < 256 := fun c hc => hb c (List.mem_of_mem_take hc)
    have bx : x < 256 := hin x (by rw [hA]; simp)
    have byy : y < 256 := hin y (by rw [hA]; simp)
    have bz : z < 256 := hin z (by rw [hA]; simp)
    have bx' : x' < 256 := by rw [← hx]; exact Nat.xor_lt_two_pow (n := 8) bx (Nat.mod_lt _ (by decide))
    have by' : y' < 256 := by rw [← hy]; exact Nat.xor_lt_two_pow (n := 8) byy (Nat.mod_lt _ (by decide))
    have bz' : z' < 256 := by rw [← hz]; exact Nat.xor_lt_two_pow (n := 8) bz (Nat.mod_lt _ (by decide))
    -- the five bytes ahead stay
    have hj : ∀ j, j < 5 → (A ++ [x', y', z']).getD j 0 = F.getD j 0 := by
      intro j hj
      have h8 : 8 ≤ p := by omega
      rw [getD_left _ _ _ (by omega), ← getD_left A [x, y, z] j (by omega), ← hA]
      rw [List.getD_eq_getElem?_getD, List.getD_eq_getElem?_getD, List.getElem?_take_of_lt (by omega)]
    have hN' : frN (A ++ [x', y', z']) = l.length := by
      rw [← hN]
      unfold frN
      rw [hj 2 (by omega), hj 3 (by omega), hj 4 (by omega)]
    rw [hN'] at hS
    have hpe : p = F.length := by omega
    have hFA : F = A ++ [x, y, z] := by rw [← hA, hpe, List.take_length]
    have hAl5 : A.length = l.length + 5 := by omega
    have sum : ∀ a b c : Nat, frN (A ++ [a, b, c]) = l.length → takeE (A ++ [a, b, c]) = 0 → sumP A = be3 a b c := by
      intro a b c hn ht
      have hs := hs0 _ ht
      unfold takeE at ht
      rw [if_neg (by simp [hs]), hn] at ht
      have hOk : SumOk (l.length + 5) ((A ++ [a, b, c]).take (l.length + 8)) := by
        false_or_by_contra
        rename_i h2
        rw [if_neg h2] at ht
        exact absurd ht (by decide)
      rw [List.take_of_length_le (by simp; omega)] at hOk
      unfold SumOk at hOk
      rw [← hAl5, List.take_left' rfl] at hOk
      obtain ⟨g0, g1, g2⟩ := getD_at A a b c
      rw [g0, g1, g2] at hOk
      exact hOk
    have s1 := sum x' y' z' hN' h
    have s2 := sum x y z (by rw [← hFA]; exact hN) (by rw [← hFA]; exact hT)
    obtain ⟨e1, e2, e3⟩ := be3_inj by' bz' byy bz (s1.symm.trans s2)
    rw [e1, e2, e3, hFA]
  · rw [if_neg h3] at hS
    rw [hq] at hS
    omega
end Go.Proofs.YtofhccpagnkalaaGreat

/- A crash of the disk; no conditions but the ranges. -/
namespace Go.Proofs.YtofhccpagnkalaaGreat
open Go.RowKit Go.Maps Go.Proofs.Own

theorem Rising.mid {A B : List FileS} {f : FileS} (h : Rising (A ++ f :: B)) : (∀ g ∈ A, nameLt g.name f.name = true) ∧ ∀ g ∈ B, nameLt f.name g.name = true := by
  obtain ⟨_, h2, h3⟩ := List.pairwise_append.1 h
  exact ⟨fun g hg => h3 g hg f List.mem_cons_self, (List.pairwise_cons.1 h2).1⟩
theorem find_mid {A B : List FileS} {f : FileS} (h : Rising (A ++ f :: B)) : findFile f.name (A ++ f :: B) = some f := by
  obtain ⟨h1, _⟩ := h.mid
  unfold findFile
  rw [List.find?_append, List.find?_eq_none.2 (fun g hg => by have := nameLt_ne (h1 g hg); simpa using this)]
  simp
/-- What is left of a file behind a crash. -/
def crash1 (f : FileS) (ts : List (Nat × Nat)) : List FileS :=
  if f.kept < f.all.length then (if f.all.take f.kept ++ tornL (f.all.drop f.kept) (ts.headD (0, 0)) = [] then [] else [⟨f.name, f.all.take f.kept ++ tornL (f.all.drop f.kept) (ts.headD (0, 0)), (f.all.take f.kept ++ tornL (f.all.drop f.kept) (ts.headD (0, 0))).length⟩])
  else if f.all = [] then [] else [f]
def tears1 (f : FileS) (ts : List (Nat × Nat)) : List (Nat × Nat) := if f.kept < f.all.length then ts.tail else ts
def crashL : List FileS → List (Nat × Nat) → List FileS
  | [], _ => []
  | f :: r, ts => crash1 f ts ++ crashL r (tears1 f ts)
def crashD (D : DiskS) (ts : List (Nat × Nat)) : DiskS := { D with down := true, armed := -1, files := crashL D.files ts }
theorem length_tornL (l : List Nat) (t : Nat × Nat) : (tornL l t).length ≤ l.length := by
  unfold tornL
  split
  · rw [length_tornTo]; exact List.length_take_le' _ _
  · exact List.length_take_le' _ _
theorem length_crash1 (f : FileS) (ts : List (Nat × Nat)) : (crash1 f ts).length ≤ 1 := by
  unfold crash1
  split <;> split <;> simp
theorem length_crashL : ∀ (L : List FileS) (ts : List (Nat × Nat)), (crashL L ts).length ≤ L.length
  | [], _ => Nat.le_refl _
  | f :: r, ts => by
    have h1 := length_crash1 f ts
    have h2 := length_crashL r (tears1 f ts)
    simp only [crashL, List.length_append, List.length_cons]
    omega
theorem Bytes.setNe {w : World} {v : Value} {l : List Nat} (h : Bytes w v l) {p : Addr} (y : Value) (hne : ∀ x, w.cell? p ≠ some (.int .u8 x)) : Bytes (w.setCell p y) v l := ⟨h.shape, Reads.setNe h.rd y hne, h.lt, h.small⟩
/-- A file that is there is found. -/
theorem DiskIs.look {w : World} {db mb tb : Nat} {D : DiskS} (h : DiskIs w db mb tb D) {n : ByteArray} {f : FileS} (hf : findFile n D.files = some f) (hn : n.size ≤ maxLen) :
    ∃ a c, (Instr.lookup 81 (.map (some mb)) (.string n) false).run Tryz.prog w = .ok (.agg #[.slice a f.all.length c, .int .i64 f.kept]) w ∧ FileIs w db mb tb (.agg #[.slice a f.all.length c, .int .i64 f.kept]) f := by
  obtain ⟨vals, hm, hfs⟩ := h.fs
  obtain ⟨hfn, hfm⟩ := find_name hf
  have hfi := hfs f hfm
  obtain ⟨a, c, hv, hB, hg⟩ := hfi
  rw [hfn] at hv
  obtain ⟨v, ps, hrun, hR⟩ := World.ownsMap.lookup hm law Tryz.underlying81 (zeroC w) (contR_mk _ _ _ _) (keyOf_name hn)
  obtain ⟨_, e2⟩ := contR_inv hR
  rw [dat_at, hf] at e2
  simp only [Prod.mk.injEq, DataW.held.injEq] at e2
  refine ⟨a, c, by rw [hrun, ← e2.1, hv], a, c, rfl, hB, hg⟩

end Go.Proofs.YtofhccpagnkalaaGreat

/- The program's disk tells its files; contract; no conditions but the ranges. -/
namespace Go.Proofs.YtofhccpagnkalaaGreat
open Go.RowKit Go.Maps Go.Proofs.Own

theorem dfile3 : RowSlice Tryz.prog 107 110 3 64 := by
  obtain ⟨i0, hi, hz0, hz1, hz2⟩ := info_parts (show (Tryz.prog.info? 110).map (fun i => (i.zero, i.size, i.bytes)) = some (some (.agg #[.string ⟨#[]⟩, .slice none 0 0, .slice none 0 0]), 3, 64) by kernel_rfl)
  exact ⟨Tryz.underlying107, ⟨i0, _, hi, hz0, hz1, hz2, rfl⟩, by decide, by decide⟩
/-- A file as it is told: its name, its kept and its loose bytes. -/
def fiV (p : FileS × Value × Value) : List Value := [.string p.1.name, p.2.1, p.2.2]
structure FiOk (w : World) (B : Nat) (p : FileS × Value × Value) : Prop where
  k : Owns w B 5 .u8 p.2.1 (ints (p.1.all.take p.1.kept))
  l : Owns w B 5 .u8 p.2.2 (ints (p.1.all.drop p.1.kept))
theorem FiOk.kept {w w' : World} {B : Nat} {p : FileS × Value × Value} {S : Nat → Prop} (h : FiOk w B p) (hk : Kept w w' S) (h1 : ∀ b, p.2.1.ownBlock = some b → ¬ S b) (h2 : ∀ b, p.2.2.ownBlock = some b → ¬ S b) : FiOk w' B p := ⟨h.k.kept hk h1, h.l.kept hk h2⟩
theorem FiOk.below {w w' : World} {B : Nat} {p : FileS × Value × Value} (h : FiOk w B p) (hb : Below w.heap.size w w') : FiOk w' B p := ⟨h.k.below hb, h.l.below hb⟩
/-- Its blocks are not the list's own. -/
def FiA (v : Value) (p : FileS × Value × Value) : Prop := ∀ b, p.2.1.ownBlock = some b ∨ p.2.2.ownBlock = some b → v.ownBlock ≠ some b
theorem fiV_cells (w : World) (p : FileS × Value × Value) : ∀ j u, (fiV p)[j]? = some u → (w.alloc (.cells #[.string p.1.name, p.2.1, p.2.2] 110)).cell? ⟨w.heap.size, j, none⟩ = some u := by
  intro j u hu
  match j, hu with
  | 0, hu => obtain rfl : Value.string p.1.name = u := Option.some.inj hu; go_cell
  | 1, hu => obtain rfl : p.2.1 = u := Option.some.inj hu; go_cell
  | 2, hu => obtain rfl : p.2.2 = u := Option.some.inj hu; go_cell
theorem fiV_one {p : FileS × Value × Value} (h1 : p.2.1.oneCell' = true) (h2 : p.2.2.oneCell' = true) : ∀ u ∈ fiV p, u.oneCell' = true := by
  intro u hu
  simp only [fiV, List.mem_cons, List.not_mem_nil, or_false] at hu
  rcases hu with rfl | rfl | rfl
  · rfl
  · exact h1
  · exact h2
theorem find_at {L : List FileS} (h : Rising L) {j : Nat} (hj : j < L.length) : findFile L[j].name L = some L[j] := by
  have e : L.take j ++ L[j] :: L.drop (j + 1) = L := by rw [← List.drop_eq_getElem_cons hj, List.take_append_drop]
  generalize L[j] = f at e ⊢
  rw [← e] at h ⊢
  exact find_mid h
theorem DiskIs.byt {w : World} {db mb tb : Nat} {D : DiskS} (h : DiskIs w db mb tb D) : ∀ f ∈ D.files, (∀ c ∈ f.all, c < 256) ∧ f.all.length ≤ 2097152 := by
  obtain ⟨vals, _, hfs⟩ := h.fs
  intro f hf
  obtain ⟨_, _, _, hB, _⟩ := hfs f hf
  exact ⟨hB.lt, hB.small⟩
/-- How it stands ahead of the j-th file. -/
structure FiI (w1 : World) (L : List FileS) (j : Nat) (v : Value) (P : List (FileS × Value × Value)) (wr : World) : Prop where
  fst : P.map (·.1) = L.take j
  own : OwnR wr w1.heap.size 110 3 v (P.map fiV)
  each : ∀ p ∈ P, FiOk wr w1.heap.size p ∧ FiA v p
  bel : Below w1.heap.size w1 wr
theorem FiI.next {w1 wr wm w' : World} {L : List FileS} {j : Nat} {v v' k l : Value} {P : List (FileS × Value × Value)} (h : FiI w1 L j v P wr) (hj : j < L.length) (hb : Below wr.heap.size wr wm)
    (hk : Owns wm wr.heap.size 5 .u8 k (ints (L[j].all.take L[j].kept))) (hl : Owns wm wr.heap.size 5 .u8 l (ints (L[j].all.drop L[j].kept)))
    (ho : OwnR w' w1.heap.size 110 3 v' (P.map fiV ++ [fiV (L[j], k, l)])) (hg : wm.grownBy w' v.ownBlock) (hat : v'.ownBlock = v.ownBlock ∨ v'.ownBlock = some wm.heap.size) (hB : Below w1.heap.size wm w') : FiI w1 L (j + 1) v' (P ++ [(L[j], k, l)]) w' := by
  have hK := Kept.of_grown hg
  have hn : FiOk wm w1.heap.size (L[j], k, l) := ⟨hk.lower fun b e => Nat.le_trans h.bel.size (hk.lt b e).1, hl.lower fun b e => Nat.le_trans h.bel.size (hl.lt b e).1⟩
  have hlt : ∀ p b, FiOk wm w1.heap.size p → (p.2.1.ownBlock = some b ∨ p.2.2.ownBlock = some b) → b < wm.heap.size := fun p b hp e => e.elim (fun e => (hp.k.lt b e).2) fun e => (hp.l.lt b e).2
  have hA : FiA v (L[j], k, l) := fun b e ev => by
    have h1 := (h.own.lt b ev).2
    rcases e with e | e
    · have := (hk.lt b e).1; omega
    · have := (hl.lt b e).1; omega
  refine ⟨by rw [List.map_append, h.fst, List.take_succ_eq_append_getElem hj]; rfl, by rw [List.map_append]; exact ho, fun p hp => ?_, (h.bel.trans (hb.mono h.bel.size)).trans hB⟩
  have hall : FiOk wm w1.heap.size p ∧ FiA v p := by
    rcases List.mem_append.1 hp with hp | hp
    · exact ⟨(h.each p hp).1.below hb, (h.each p hp).2⟩
    · obtain rfl := List.mem_singleton.1 hp; exact ⟨hn, hA⟩
  refine ⟨hall.1.kept hK (fun b e e' => hall.2 b (.inl e) e') (fun b e e' => hall.2 b (.inr e) e'), fun b e ev => ?_⟩
  rcases hat with hat | hat
  · exact hall.2 b e (hat ▸ ev)
  · rw [hat] at ev
    have := hlt p b hall.1 e
    have := Option.some.inj ev
    omega

theorem FiI.drew {w1 wr : World} {L : List FileS} {j : Nat} {v : Value} {P : List (FileS × Value × Value)} (h : FiI w1 L j v P wr) : FiI w1 L j v P wr.drew :=
  have hb := (Below.refl wr.heap.size wr).drew
  ⟨h.fst, h.own.below hb, fun p hp => ⟨(h.each p hp).1.below hb, (h.each p hp).2⟩, h.bel.drew⟩

set_option maxHeartbeats 2000000 in
set_option maxRecDepth 20000 in
theorem dfiles_any (db mb tb : Nat) (D : DiskS) (w : World) (h : DiskIs w db mb tb D) (hw : DWf D) :
    Calls Tryz.prog 48 #[.pointer (some ⟨db, 0, none⟩)] w fun e w' => ∃ v, e = .returned v ∧ ∃ P : List (FileS × Value × Value), P.map (·.1) = D.files ∧ SRow w' 3 v (P.map fiV) ∧ (∀ p ∈ P, FiOk w' w.heap.size p) ∧ Below w.heap.size w w' := by
  have H := Lib.hid h
  have HW := Lib.hid hw
  have many := hw.many
  clear h hw
  go_enter Tryz.func48, Tryz.ntmps48
  go_wp2_with fail
  refine (dnames db mb tb D _ H.out HW.out).mono ?_
  rintro e w1 ⟨nv, rfl, hnv, hb1, hno⟩
  have NV := Lib.hid hnv
  have B1 := Lib.hid hb1
  have H1 := Lib.hid (H.out.below hb1)
  obtain ⟨an, cn, rfl, _⟩ := hnv
  have HNL : Hid ((List.map (fun f : FileS => f.name) D.files).length = D.files.length) := Lib.hid (List.length_map _)
  rw [HNL.out] at NV ⊢
  clear hb1 hno
  go_wp2_with fail
  go_loopw [2, 9] (fun lv y wr => ∃ j P, j ≤ D.files.length ∧ y = .int .i64 j ∧ FiI w1 D.files j lv P wr) (fun _ y _ => D.files.length - (intOf y).toNat)
  case atStart => exact ⟨0, [], Nat.zero_le _, rfl, rfl, OwnR.nil _ _ _ _, nofun, Below.refl _ _⟩
  case round =>
    obtain ⟨j, P, hj, rfl, hi⟩ := hrel
    have I := Lib.hid hi
    obtain ⟨la, lc, rfl⟩ := hi.own.shape
    by_cases hlt : j < D.files.length
    · have HNM : Hid (∃ b o, an = some ⟨b, o, none⟩ ∧ wr.cell? ⟨b, o + j, none⟩ = some (.string (D.files[j]).name)) := Lib.hid (by
        obtain ⟨a', c', e, hc⟩ := NV.out.below I.out.bel
        obtain ⟨b, o, e1, e2⟩ := hc j (by rw [List.length_map]; exact hlt)
        injection e with e3
        exact ⟨b, o, e3.trans e1, by rw [e2, List.getElem_map]⟩)
      obtain ⟨nb, no, rfl, hnc⟩ := HNM.out
      have HDr := Lib.hid (H1.out.below I.out.bel)
      have HRS : Hid (Rising D.files) := Lib.hid (by obtain ⟨_, hm, _⟩ := HDr.out.fs; exact hm.rising)
      have HEA : Hid ((D.files[j]).name.size ≤ 16 ∧ (D.files[j]).kept ≤ (D.files[j]).all.length) := Lib.hid (HW.out.each _ (List.getElem_mem hlt))
      obtain ⟨a, c, hrun, hfi⟩ := HDr.out.look (find_at HRS.out hlt) (by have := HEA.out.1; unfold maxLen; omega)
      have NX : ∀ (wm w' : World) (v' k l : Value), Below wr.heap.size wr wm → Owns wm wr.heap.size 5 .u8 k (ints ((D.files[j]).all.take (D.files[j]).kept)) → Owns wm wr.heap.size 5 .u8 l (ints ((D.files[j]).all.drop (D.files[j]).kept)) → OwnR w' w1.heap.size 110 3 v' (P.map fiV ++ [fiV (D.files[j], k, l)]) → wm.grownBy w' _ → (v'.ownBlock = _ ∨ v'.ownBlock = some wm.heap.size) → Below w1.heap.size wm w' → FiI w1 D.files (j + 1) v' (P ++ [(D.files[j], k, l)]) w' := fun wm w' v' k l x1 x2 x3 x4 x5 x6 x7 => I.out.next hlt x1 x2 x3 x4 x5 x6 x7
      have NXH := Lib.hid NX
      clear NX hi
      have c0 := HDr.out.c0
      have ldb : db < wr.heap.size := HDr.out.lt
      generalize D.files[j] = f at *
      have HB0 : Hid (Bytes wr (.slice a f.all.length c) f.all) := Lib.hid (by obtain ⟨a2, c2, e1, e2, _⟩ := hfi; cases e1; exact e2)
      obtain ⟨v1, hB1, hcut1⟩ := HB0.out.cuth Tryz.u8s f.kept HEA.out.2
      obtain ⟨v2, hB2, hcut2⟩ := HB0.out.cutl Tryz.u8s f.kept HEA.out.2
      have HL1 : Hid ((ints (f.all.take f.kept)).length ≤ 2097152) := Lib.hid (by rw [length_ints]; exact hB1.small)
      have HL2 : Hid ((ints (f.all.drop f.kept)).length ≤ 2097152) := Lib.hid (by rw [length_ints]; exact hB2.small)
      obtain ⟨n, hn⟩ : ∃ n, f.all.length = n := ⟨_, rfl⟩
      have HN := Lib.hid hn
      rw [hn] at hrun hcut1 hcut2
      have B3 : Hid (Below wr.heap.size wr (wr.alloc (.cells #[.slice a n c, .int .i64 f.kept] 87))) := Lib.hid ((Below.refl _ _).alloc (Nat.le_refl _) _)
      have HB1 := Lib.hid (hB1.alloc (.cells #[.slice a n c, .int .i64 f.kept] 87))
      have HB2 := Lib.hid (hB2.alloc (.cells #[.slice a n c, .int .i64 f.kept] 87))
      have OW := Lib.hid I.out.own
      have hlen : (P.map fiV).length = j := by
        have h1 := congrArg List.length I.out.fst
        rw [List.length_map, List.length_take] at h1
        rw [List.length_map]; omega
      have HLE : Hid ((P.map fiV).length ≤ 4294967296) := Lib.hid (by omega)
      have IB := Lib.hid I.out.bel
      rw [hlen] at OW NXH ⊢
      have j0 : (0 : Int) ≤ (j : Int) := by omega
      have j1 : (j : Int) < (D.files.length : Int) := by omega
      clear hfi hB1 hB2 hn hlen I
      go_wp2_with fail
      have X3' : ((wr.alloc (.cells #[.slice a n c, .int .i64 f.kept] 87)).cell? ⟨wr.heap.size, 0, none⟩ = some (.slice a n c) ∧ (wr.alloc (.cells #[.slice a n c, .int .i64 f.kept] 87)).cell? ⟨wr.heap.size, 1, none⟩ = some (.int .i64 f.kept)) := ⟨by go_cell, by go_cell⟩
      have L3' : wr.heap.size < (wr.alloc (.cells #[.slice a n c, .int .i64 f.kept] 87)).heap.size := by simp
      generalize World.alloc wr _ = w3 at *
      have X3 := Lib.hid X3'
      have L3 := L3'
      clear X3' L3'
      refine region_start [0, 0, 0, 4, 0, 16, 60, 124, 0, 256, 0, 1024, 3840, 8188, 16382, 32766, 65535, 131071] 128 (fun w' => w'.cell? ⟨wr.heap.size, 0, none⟩ = some (.slice a n c) ∧ w'.cell? ⟨wr.heap.size, 1, none⟩ = some (.int .i64 f.kept)) (by kernel_rfl) ?_
      refine stage_heads [0, 1, 2, 3, 4, 5, 6, 8, 9, 10, 11, 12] (by kernel_rfl) (L := #[true, true, true, true, true, true, true, false, true, true, true, true, true, false, false, false, false, false]) (by kernel_rfl) (f' := 6) rfl (fun _ _ _ _ h => h) (fun w o h => ((Stable.cell _ _).and (Stable.cell _ _)).alloc h o) (.inr (by exact X3.out)) ?_
      simp only [List.flatMap_cons, List.flatMap_nil, List.drop_succ_cons, List.drop_zero, List.take_succ_cons, List.take_zero, List.cons_append, List.nil_append, List.append_nil]
      iterate 12 (first | (refine heads_load _ (by rfl) (fun w' hs => by obtain ⟨y0, y1⟩ := hs; go_simp; try with_reducible rfl) rfl ?_; simp only [Act.put, List.setIfInBounds_toArray, List.set_cons_zero, List.set_cons_succ]) | (refine heads_pure _ (by rfl) (fun w' => by go_simp; try with_reducible rfl) ?_; simp only [Act.put, List.setIfInBounds_toArray, List.set_cons_zero, List.set_cons_succ]))
      refine heads_nil ?_
      refine stage_op 7 (by kernel_rfl) (L := #[true, true, true, true, true, true, true, true, true, true, true, true, true, false, false, false, false, false]) (by kernel_rfl) ?_
      simp only [List.drop_succ_cons, List.drop_zero, List.take_succ_cons, List.take_zero]
      go_wp2_with fail; refine (bclone _ _ _ (by exact HB1.out.rd) HL1.out).mono ?_; rintro e u4 ⟨k1, rfl, hk1, hb4⟩; have B4 : Hid (Below w3.heap.size w3 u4) := Lib.hid (by first | exact hb4 | exact ((Below.refl _ _).drew).trans hb4); have K1 : Hid (Owns u4 w3.heap.size 5 .u8 k1 (ints (f.all.take f.kept))) := Lib.hid (by exact hk1); have L4 : Hid (wr.heap.size < u4.heap.size) := Lib.hid (Nat.lt_of_lt_of_le L3 B4.out.size); have X4 : Hid (u4.cell? ⟨wr.heap.size, 0, none⟩ = some (.slice a n c) ∧ u4.cell? ⟨wr.heap.size, 1, none⟩ = some (.int .i64 f.kept)) := Lib.hid (by exact ⟨Below.at B4.out X3.out.1 L3, Below.at B4.out X3.out.2 L3⟩); obtain ⟨k1a, k1c, rfl⟩ := hk1.shape; clear hk1 hb4; go_wp2_with fail
      refine step_post (fun _ => X4.out) ?_
      refine stage_op 13 (by kernel_rfl) (L := #[true, true, true, true, true, true, true, true, true, true, true, true, true, true, false, false, false, false]) (by kernel_rfl) ?_
      simp only [List.drop_succ_cons, List.drop_zero, List.take_succ_cons, List.take_zero]
      go_wp2_with fail; refine (bclone _ _ _ (by exact HB2.out.rd.below B4.out) HL2.out).mono ?_; rintro e u5 ⟨k2, rfl, hk2, hb5⟩; have B5 : Hid (Below u4.heap.size u4 u5) := Lib.hid (by first | exact hb5 | exact ((Below.refl _ _).drew).trans hb5); have K2 : Hid (Owns u5 u4.heap.size 5 .u8 k2 (ints (f.all.drop f.kept))) := Lib.hid (by exact hk2); obtain ⟨k2a, k2c, rfl⟩ := hk2.shape; have HBS : Hid (∀ o, w1.heap.size ≤ (u5.alloc o).heap.size) := Lib.hid (fun o => by have h1 := IB.out.size; have h2 := B3.out.size; have h3 := B4.out.size; have h4 := B5.out.size; simp only [World.size_alloc]; omega); clear hk2 hb5; go_wp2_with fail
      refine step_post nofun ?_
      refine stage_heads [14] (by kernel_rfl) (L := #[true, true, true, true, true, true, true, true, true, true, true, true, true, true, true, false, false, false]) (by kernel_rfl) (f' := 3) rfl (fun _ _ _ _ h => h) (fun w o h => ((Stable.cell _ _).and (Stable.cell _ _)).alloc h o) (.inl (by kernel_rfl)) ?_
      simp only [List.flatMap_cons, List.flatMap_nil, List.drop_succ_cons, List.drop_zero, List.take_succ_cons, List.take_zero, List.append_nil]
      iterate 1 (refine heads_pure _ (by rfl) (fun w' => by go_simp; try with_reducible rfl) ?_; simp only [Act.put, List.setIfInBounds_toArray, List.set_cons_zero, List.set_cons_succ])
      refine heads_nil ?_
      refine stage_op 15 (by kernel_rfl) (L := #[true, true, true, true, true, true, true, true, true, true, true, true, true, true, true, true, false, false]) (by kernel_rfl) ?_
      simp only [List.drop_succ_cons, List.drop_zero, List.take_succ_cons, List.take_zero]
      go_wp2_with fail
      refine step_post nofun ?_
      refine stage_op 16 (by kernel_rfl) (L := #[true, true, true, true, true, true, true, true, true, true, true, true, true, true, true, true, true, false]) (by kernel_rfl) ?_
      simp only [List.drop_succ_cons, List.drop_zero, List.take_succ_cons, List.take_zero]
      refine wpList_append_row dfile3 _ _ rfl w1.heap.size _ (P.map fiV) _ (fiV (f, .slice k1a (ints (f.all.take f.kept)).length k1c, .slice k2a (ints (f.all.drop f.kept)).length k2c)) rfl rfl (by exact (OW.out.below B3.out).below ((B4.out.trans (B5.out.mono B4.out.size)).trans (Below.refl _ _)) |>.alloc _) rfl (by exact fiV_cells _ _) (fiV_one rfl rfl) (by exact HLE.out) (by exact HBS.out _) rfl ?_; intro v7 w7 ho7 hg7 hat7 hb7; have N7 := Lib.hid (NXH.out _ _ _ _ _ (((B3.out.trans (B4.out.mono B3.out.size)).trans (B5.out.mono (Nat.le_trans B3.out.size B4.out.size))).alloc (by have h2 := B3.out.size; have h3 := B4.out.size; have h4 := B5.out.size; omega) _) (((K1.out.lower fun b e => Nat.le_trans B3.out.size (K1.out.lt b e).1).below B5.out).alloc _) ((K2.out.lower fun b e => Nat.le_trans B3.out.size (Nat.le_trans B4.out.size (K2.out.lt b e).1)).alloc _) ho7 hg7 hat7 hb7); clear ho7 hg7 hat7 hb7; go_wp2_with fail
      refine step_post nofun ?_
      refine stage_heads [17] (by kernel_rfl) (L := #[true, true, true, true, true, true, true, true, true, true, true, true, true, true, true, true, true, true]) (by kernel_rfl) (f' := 0) rfl (fun _ _ _ _ h => h) (fun w o h => ((Stable.cell _ _).and (Stable.cell _ _)).alloc h o) (.inl (by kernel_rfl)) ?_
      simp only [List.flatMap_cons, List.flatMap_nil, List.drop_succ_cons, List.drop_zero, List.take_succ_cons, List.take_zero, List.append_nil]
      iterate 1 (refine heads_pure _ (by rfl) (fun w' => by go_simp; try with_reducible rfl) ?_; simp only [Act.put, List.setIfInBounds_toArray, List.set_cons_zero, List.set_cons_succ])
      refine heads_nil ?_
      refine stage_done (by kernel_rfl) ?_
      go_wp2_with fail
      go_roundw
      case rel => exact ⟨j + 1, _, by omega, by first | rfl | go_num, by first | exact N7.out | exact N7.out.drew⟩
      case measure => simp [intOf]; omega
    · have hje : j = D.files.length := by omega
      subst hje
      have hfst := I.out.fst
      rw [List.take_length] at hfst
      have j1 : ¬ (D.files.length : Int) < (D.files.length : Int) := by omega
      clear hi
      go_wp2_with fail
      go_ret
      have hsz := B1.out.size
      have HO := SRow.of_own I.out.own
      rw [List.length_map] at HO
      refine ⟨.slice la P.length lc, rfl, P, hfst, HO, fun p1 p2 p3 hp => ⟨?_, ?_⟩, B1.out.trans (I.out.bel.mono hsz)⟩
      · exact (I.out.each _ hp).1.k.lower fun b e => Nat.le_trans hsz ((I.out.each _ hp).1.k.lt b e).1
      · exact (I.out.each _ hp).1.l.lower fun b e => Nat.le_trans hsz ((I.out.each _ hp).1.l.lt b e).1
end Go.Proofs.YtofhccpagnkalaaGreat
