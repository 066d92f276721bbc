/- The contract of the program's writer: its number; no conditions but the ranges. -/
import Derived.Test.YtofhccpagnkalaaGreatWr
namespace Go.Proofs.YtofhccpagnkalaaGreat
open Go.RowKit Go.Maps Go.Proofs.Own

/-- A writer in block a, with its bytes l in the slice v. -/
structure WrIs (w : World) (a : Nat) (v : Value) (l : List Nat) : Prop where
  c : w.cell? ⟨a, 0, none⟩ = some v
  own : Owns w (a + 1) 5 .u8 v (ints l)
  fr : w.frozen? ⟨a, 0, none⟩ = false
/-- What a writer's call leaves: all but the writer and its bytes, which stay or are new. -/
structure Grew (w w' : World) (a : Nat) (v v' : Value) : Prop where
  kept : Kept w w' (fun k => k = a ∨ v.ownBlock = some k)
  at' : ∀ b, v'.ownBlock = some b → v.ownBlock = some b ∨ w.heap.size ≤ b
theorem Grew.refl (w : World) (a : Nat) (v : Value) : Grew w w a v v := ⟨Kept.refl _ _, fun _ h => .inl h⟩
theorem Grew.trans {w u x : World} {a : Nat} {v v' v'' : Value} (h : Grew w u a v v') (k : Grew u x a v' v'') : Grew w x a v v'' := by
  refine ⟨h.kept.andThen k.kept fun b hb hs => ?_, fun b hb => ?_⟩
  · rcases hs with hs | hs | hs
    · exact hs
    · exact .inl hs
    · rcases h.at' b hs with h1 | h1
      · exact .inr h1
      · omega
  · rcases k.at' b hb with h1 | h1
    · exact h.at' b h1
    · exact .inr (Nat.le_trans h.kept.size h1)
theorem WrIs.lt {w : World} {a : Nat} {v : Value} {l : List Nat} (h : WrIs w a v l) : a < w.heap.size := World.block_lt_of_cell? _ _ h.c
theorem WrIs.below {w w' : World} {a : Nat} {v : Value} {l : List Nat} (h : WrIs w a v l) (hb : Below w.heap.size w w') : WrIs w' a v l :=
  ⟨Below.at hb h.c h.lt, h.own.below hb, by rw [hb.frozen (p := ⟨a, 0, none⟩) h.lt]; exact h.fr⟩
theorem Grew.below {w w' : World} {a : Nat} {v v' : Value} {l : List Nat} (h : Grew w w' a v v') (hw : WrIs w a v l) : Below a w w' :=
  h.kept.below (Nat.le_of_lt hw.lt) fun k hk => by
    rcases hk with rfl | hk
    · exact Nat.le_refl _
    · have := (hw.own.lt k hk).1; omega
theorem Grew.of_below {w u x : World} {a : Nat} {v v' : Value} {l : List Nat} (hb : Below w.heap.size w u) (h : Grew u x a v v') (_hw : WrIs w a v l) : Grew w x a v v' :=
  ⟨(Kept.of_below hb (S := fun k => k = a ∨ v.ownBlock = some k) fun k h1 h2 => by omega).trans h.kept, fun b hb' => (h.at' b hb').imp id fun e => Nat.le_trans hb.size e⟩

theorem digs_at {n : Nat} : ∀ j (h : j < (digs n).length), (digs n)[j] = n / 256 ^ ((digs n).length - 1 - j) % 256 := by
  induction n using Nat.strongRecOn with
  | _ n ih =>
    intro j hj
    by_cases h0 : n = 0
    · subst h0; simp [digs_zero] at hj
    · have hl : (digs n).length = (digs (n / 256)).length + 1 := by rw [digs_step h0]; simp
      by_cases h1 : j < (digs (n / 256)).length
      · have he : (digs n)[j] = (digs (n / 256))[j] := by
          have : (digs n)[j]? = (digs (n / 256))[j]? := by rw [digs_step h0, List.getElem?_append_left h1]
          rw [List.getElem?_eq_getElem hj, List.getElem?_eq_getElem h1] at this
          exact Option.some.inj this
        rw [he, ih _ (by omega) j h1, hl, show (digs (n / 256)).length + 1 - 1 - j = ((digs (n / 256)).length - 1 - j) + 1 by omega, Nat.pow_succ, Nat.mul_comm, ← Nat.div_div_eq_div_mul]
      · have hje : j = (digs (n / 256)).length := by omega
        have he : (digs n)[j] = n % 256 := by
          have : (digs n)[j]? = some (n % 256) := by rw [digs_step h0, hje, List.getElem?_append_right (Nat.le_refl _)]; simp
          rw [List.getElem?_eq_getElem hj] at this
          exact Option.some.inj this
        rw [he, hl, hje]; simp
theorem pow256 (r : Nat) : (2 : Int) ^ (8 * r) = ((256 ^ r : Nat) : Int) := by
  rw [show (256 : Nat) = 2 ^ 8 from rfl, ← Nat.pow_mul]
  simp
theorem WrIs.put {w w1 w2 : World} {a : Nat} {v v2 : Value} {l l' : List Nat} (h : WrIs w a v l) (hb : Below w.heap.size w w1) (hg : w1.grownBy w2 v.ownBlock) (ho : Owns w2 (a + 1) 5 .u8 v2 (ints l')) (hat : v2.ownBlock = v.ownBlock ∨ v2.ownBlock = some w1.heap.size) :
    WrIs (w2.setCell ⟨a, 0, none⟩ v2) a v2 l' ∧ Grew w (w2.setCell ⟨a, 0, none⟩ v2) a v v2 := by
  have h1 := h.below hb
  have K := Kept.of_grown hg
  have hna : ¬ v.ownBlock = some a := fun e => by have := (h.own.lt a e).1; omega
  have c2 := K.cell h1.c hna
  have f2 : w2.frozen? ⟨a, 0, none⟩ = false := by rw [K.frozen (a := ⟨a, 0, none⟩) h1.lt hna]; exact h1.fr
  refine ⟨⟨World.cell?_setCell_same _ _ _ c2, ho.kept_setCell v2 (by simp), (World.frozen?_setCell _ _ _ _).trans f2⟩, ⟨?_, fun b hb' => ?_⟩⟩
  · refine (Kept.of_below hb (S := fun k => k = a ∨ v.ownBlock = some k) fun k h1 h2 => by omega).trans ?_
    exact K.andThen (Kept.setCell w2 ⟨a, 0, none⟩ v2) fun k _ hk => hk.elim .inr .inl
  · rcases hat with e | e
    · exact .inl (e ▸ hb')
    · rw [e] at hb'
      obtain rfl := Option.some.inj hb'
      exact .inr hb.size

set_option maxHeartbeats 2000000 in
set_option maxRecDepth 20000 in
theorem wnumber_any (a : Nat) (v : Value) (l : List Nat) (n m : Nat) (w : World) (hw : WrIs w a v l) (hn : (n : Int) < 18446744073709551616) (hm : m ≤ 128) (hl : l.length ≤ 65536) :
    Calls Tryz.prog 138 #[.pointer (some ⟨a, 0, none⟩), .int .u64 n, .int .u8 m] w fun e w' => e = .returned (.tuple #[]) ∧ ∃ v', WrIs w' a v' (l ++ ((m + (digs n).length) :: digs n)) ∧ Grew w w' a v v' := by
  have HL8 := Lib.hid (digs_le8 hn)
  have HW := Lib.hid hw
  have HN := Lib.hid hn
  have hlt := hw.lt
  clear hw
  obtain ⟨nz, hnz⟩ : ∃ z : Int, z = (n : Int) := ⟨_, rfl⟩
  rw [← hnz] at hn
  have HNZ := Lib.hid hnz
  have hn0 : (0 : Int) ≤ nz := by omega
  rw [show Value.int .u64 (n : Int) = Value.int .u64 nz by rw [hnz]]
  have HN0 := Lib.hid hn0
  clear hnz hn hn0
  go_enter Tryz.func138, Tryz.ntmps138
  go_wp2_with fail
  go_loop [7, 6] (fun x s => ∃ (q k : Nat), (q : Int) < 18446744073709551616 ∧ x = .int .u64 q ∧ s = .int .i64 k ∧ (digs q).length + k = (digs n).length) (fun x _ => (intOf x).toNat)
  case atStart => exact ⟨n, 0, HN.out, by rw [HNZ.out], rfl, rfl⟩
  case round =>
    obtain ⟨q, k, hq, rfl, rfl, hd⟩ := hrel
    have HD := Lib.hid hd
    have hk8 : k ≤ 8 := by have := HL8.out; omega
    clear hd
    by_cases h0 : q = 0
    · subst h0
      have HK : Hid (k = (digs n).length) := Lib.hid (by have := HD.out; rw [digs_zero] at this; simpa using this)
      clear hq
      rw [show ((0 : Nat) : Int) = 0 from rfl]
      have x0 := HW.out.c
      have f0 := HW.out.fr
      have hna : ¬ v.ownBlock = some a := fun e => by have := (HW.out.own.lt a e).1; omega
      have HLN : Hid ((ints l).length + ([(m : Int) + (k : Int)] : List Int).length ≤ 4294967296) := Lib.hid (by rw [length_ints]; simp only [List.length_cons, List.length_nil]; omega)
      go_wp2_with (at_builtin; go_loud (refine wpList_append_ints Tryz.u8s _ _ rfl (a + 1) v (.slice (some ⟨w.heap.size, 0, none⟩) 1 1) (ints l) [(m : Int) + (k : Int)] rfl rfl (HW.out.own.alloc _) (Reads.one _ _ _ _) (by decide) HLN.out (by simp; exact Nat.le_of_lt hlt) rfl ?_; intro v2 w2 hown2 hgr2 hat2 hnil2 hbel2; obtain ⟨a2, c2, rfl⟩ := hown2.shape; generalize (ints l ++ [(m : Int) + (k : Int)]).length = n2 at *; have HO2 := Lib.hid hown2; have B2 := Lib.hid hbel2; have G2 := Lib.hid hgr2; have A2 := Lib.hid hat2; have x2 := (Kept.of_grown hgr2).cell (cell_alloc x0 _) hna; have f2 : w2.frozen? ⟨a, 0, none⟩ = false := (by rw [(Kept.of_grown hgr2).frozen (a := ⟨a, 0, none⟩) (by simp; exact Nat.lt_succ_of_lt hlt) hna, ← f0]; exact ((Below.refl w.heap.size w).alloc (Nat.le_refl _) _).frozen hlt); clear hown2 hgr2 hat2 hnil2 hbel2 x0 f0))
      -- SECOND
      clear x2 f2
      generalize hW3 : World.setCell w2 _ _ = w3
      have HI : Hid (ints l ++ [(m : Int) + (k : Int)] = ints (l ++ [m + k])) := Lib.hid (by simp [ints])
      have HP : Hid (WrIs w3 a (.slice a2 n2 c2) (l ++ [m + k]) ∧ Grew w w3 a v (.slice a2 n2 c2)) := Lib.hid (by
        subst hW3
        exact HW.out.put ((Below.refl _ _).alloc (Nat.le_refl _) _) G2.out (l' := l ++ [m + k]) (HI.out ▸ HO2.out) A2.out)
      clear hW3 HO2 B2 G2 A2 HLN HD
      go_loopw [30] (fun i wr => ∃ (j : Nat) (v3 : Value), j ≤ k ∧ i = .int .i64 j ∧ WrIs wr a v3 (l ++ ((m + k) :: (digs n).take j)) ∧ Grew w wr a v v3) (fun i _ => k - (intOf i).toNat)
      case atStart => exact ⟨0, _, Nat.zero_le _, rfl, by simpa using HP.out.1, HP.out.2⟩
      case round =>
        obtain ⟨j, v3, hj, rfl, hw3, hg3⟩ := hrel
        have HW3 := Lib.hid hw3
        have HG3 := Lib.hid hg3
        have hlt3 := hw3.lt
        obtain ⟨a3, c3, rfl⟩ := hw3.own.shape
        clear hw3 hg3
        by_cases hjk : j < k
        · have hw1 : IntKind.i64.wrap ((k : Int) - 1) = (k : Int) - 1 := by simp only [IntKind.wrap_i64]; omega
          have hw2 : IntKind.i64.wrap ((k : Int) - 1 - (j : Int)) = (k : Int) - 1 - (j : Int) := by simp only [IntKind.wrap_i64]; omega
          have hw4 : IntKind.i64.wrap (8 * ((k : Int) - 1 - (j : Int))) = 8 * ((k : Int) - 1 - (j : Int)) := by simp only [IntKind.wrap_i64]; omega
          have hw5 : decide (8 * ((k : Int) - 1 - (j : Int)) < 0) = false := by simp; omega
          have X3 := Lib.hid HW3.out.c
          have hjd : j < (digs n).length := by have := HK.out; omega
          have HBV : Hid (IntKind.u8.wrap (nz / 2 ^ (8 * ((k : Int) - 1 - (j : Int))).toNat) = ((digs n)[j] : Nat)) := Lib.hid (by
            rw [digs_at j hjd, HNZ.out, ← HK.out, show (8 * ((k : Int) - 1 - (j : Int))).toNat = 8 * (k - 1 - j) by omega, pow256, ← Int.natCast_ediv]
            simp only [IntKind.wrap_u8]
            rfl)
          have HTK : Hid ((digs n).take (j + 1) = (digs n).take j ++ [(digs n)[j]]) := Lib.hid (by rw [List.take_add_one, List.getElem?_eq_getElem hjd]; rfl)
          have hzl : (digs n)[j] < 256 := digs_lt n _ (List.getElem_mem hjd)
          generalize (digs n)[j] = z at HBV HTK hzl
          have hna3 : ¬ (Value.slice a3 (ints (l ++ ((m + k) :: (digs n).take j))).length c3).ownBlock = some a := fun e => by have := (HW3.out.own.lt a e).1; omega
          have HLN3 : Hid ((ints (l ++ ((m + k) :: (digs n).take j))).length + ([(z : Int)] : List Int).length ≤ 4294967296) := Lib.hid (by rw [length_ints]; simp only [List.length_cons, List.length_nil, List.length_append, List.length_take]; omega)
          generalize hn3 : (ints (l ++ ((m + k) :: (digs n).take j))).length = n3 at X3 hna3
          rw [hn3] at HW3 HG3
          go_wp2_with fail
          refine region_start [0, 0, 2, 6, 14, 0, 0, 64, 0, 448, 960, 2016, 4064, 8160, 16382, 32767, 65535, 131071] 0 (fun w' => w'.cell? ⟨a, 0, none⟩ = some (.slice a3 n3 c3)) (by kernel_rfl) ?_
          refine stage_heads [0, 1, 2, 3, 4, 5, 6, 7, 8, 9, 10, 11, 12] (by kernel_rfl) (L := #[true, true, true, true, true, true, true, true, true, true, true, true, true, false, false, false, false, false]) (by kernel_rfl) (f' := 5) rfl (fun _ _ _ _ h => h) (fun w o h => (Stable.cell _ _).alloc h o) (.inr X3.out) ?_
          simp only [List.flatMap_cons, List.flatMap_nil, List.drop_succ_cons, List.drop_zero, List.take_succ_cons, List.take_zero, List.cons_append, List.nil_append, List.append_nil]
          iterate 13 (first | (refine heads_load _ (by rfl) (fun w' hs => by skip; go_simp; try with_reducible rfl) rfl ?_; simp only [Act.put, List.setIfInBounds_toArray, List.set_cons_zero, List.set_cons_succ]) | (refine heads_pure _ (by rfl) (fun w' => by go_simp; try with_reducible rfl) ?_; simp only [Act.put, List.setIfInBounds_toArray, List.set_cons_zero, List.set_cons_succ]))
          refine heads_nil ?_
          refine stage_op 13 (by kernel_rfl) (L := #[true, true, true, true, true, true, true, true, true, true, true, true, true, true, false, false, false, false]) (by kernel_rfl) ?_
          simp only [List.drop_succ_cons, List.drop_zero, List.take_succ_cons, List.take_zero]
          rw [HBV.out]; go_wp2_with fail; generalize hu5 : World.alloc _ _ = u5; have U5 : Hid (Below wr.heap.size wr u5) := Lib.hid (by subst hu5; first | exact (Below.refl _ _).alloc (Nat.le_refl _) _ | exact ((Below.refl _ _).drew).alloc (Nat.le_refl _) _); have R5 : Hid (Reads u5 .u8 (.slice (some ⟨wr.heap.size, 0, none⟩) 1 1) [(z : Int)]) := Lib.hid (by subst hu5; exact Reads.one _ _ _ _); have L5 := U5.out.size; clear hu5
          refine step_post nofun ?_
          refine stage_op 14 (by kernel_rfl) (L := #[true, true, true, true, true, true, true, true, true, true, true, true, true, true, true, false, false, false]) (by kernel_rfl) ?_
          simp only [List.drop_succ_cons, List.drop_zero, List.take_succ_cons, List.take_zero]
          go_loud (refine wpList_append_ints Tryz.u8s _ _ rfl (a + 1) (.slice a3 n3 c3) (.slice (some ⟨wr.heap.size, 0, none⟩) 1 1) _ [(z : Int)] rfl rfl (by first | exact HW3.out.own.below U5.out | exact (HW3.out.own.below U5.out).drew) (by first | exact R5.out | exact R5.out.drew) (by decide) HLN3.out (by simp; omega) rfl ?_; intro v6 w6 hown6 hgr6 hat6 hnil6 hbel6; obtain ⟨a6, c6, rfl⟩ := hown6.shape; have O6 := Lib.hid hown6; have G6 := Lib.hid hgr6; have A6 := Lib.hid hat6; have x6 := (Kept.of_grown hgr6).cell (Below.at U5.out HW3.out.c hlt3) hna3; have f6 : w6.frozen? ⟨a, 0, none⟩ = false := (by rw [(Kept.of_grown hgr6).frozen (a := ⟨a, 0, none⟩) (Nat.lt_of_lt_of_le hlt3 L5) hna3]; exact (HW3.out.below U5.out).fr); clear hown6 hgr6 hat6 hnil6 hbel6; generalize (ints _ ++ [(z : Int)]).length = n6 at *; go_wp2_with fail)
          refine step_post nofun ?_
          refine stage_heads [15, 16] (by kernel_rfl) (L := #[true, true, true, true, true, true, true, true, true, true, true, true, true, true, true, true, true, false]) (by kernel_rfl) (f' := 1) rfl (fun _ _ _ _ h => h) (fun w o h => (Stable.cell _ _).alloc h o) (.inl (by kernel_rfl)) ?_
          simp only [List.flatMap_cons, List.flatMap_nil, List.drop_succ_cons, List.drop_zero, List.take_succ_cons, List.take_zero, List.cons_append, List.nil_append, List.append_nil]
          iterate 2 (refine heads_pure _ (by rfl) (fun w' => by go_simp; try with_reducible rfl) ?_; simp only [Act.put, List.setIfInBounds_toArray, List.set_cons_zero, List.set_cons_succ])
          refine heads_nil ?_
          refine stage_op 17 (by kernel_rfl) (L := #[true, true, true, true, true, true, true, true, true, true, true, true, true, true, true, true, true, true]) (by kernel_rfl) ?_
          simp only [List.drop_succ_cons, List.drop_zero, List.take_succ_cons, List.take_zero]
          go_wp2_with fail
          refine step_post nofun ?_
          refine stage_done (by kernel_rfl) ?_
          generalize hW7 : World.setCell w6 _ _ = w7
          have HI7 : Hid (ints (l ++ ((m + k) :: (digs n).take j)) ++ [(z : Int)] = ints (l ++ ((m + k) :: (digs n).take (j + 1)))) := Lib.hid (by rw [HTK.out]; simp [ints])
          have HP7 : Hid (WrIs w7 a (.slice a6 n6 c6) (l ++ ((m + k) :: (digs n).take (j + 1))) ∧ Grew wr w7 a (.slice a3 n3 c3) (.slice a6 n6 c6)) := Lib.hid (by
            subst hW7
            exact HW3.out.put U5.out.drew G6.out (HI7.out ▸ O6.out) A6.out)
          clear hW7 x6 f6
          go_wp2_with fail
          go_roundw
          case measure => show k - ((j : Int) + 1).toNat < k - ((j : Int)).toNat; omega
          case rel => exact ⟨j + 1, _, by omega, by first | rfl | go_num, HP7.out.1, HG3.out.trans HP7.out.2⟩
        · have hje : j = k := by omega
          subst hje
          go_wp2_with fail
          refine bodyPost_end (v := .tuple #[]) (by simp [results, Tryz.results138, go_sem]) rfl ?_
          have HE : Hid ((m + j) :: (digs n).take j = (m + (digs n).length) :: digs n) := Lib.hid (by rw [HK.out, List.take_length])
          rw [HE.out] at HW3 HG3
          exact ⟨rfl, _, HW3.out, HG3.out⟩
      -- ENDSECOND
    · have hq0 : (0 : Int) < (q : Int) := by omega
      have HDS : Hid ((digs q).length = (digs (q / 256)).length + 1) := Lib.hid (by rw [digs_step h0]; simp)
      clear h0
      have HQ : Hid (((q / 256 : Nat) : Int) = (q : Int) / 256) := Lib.hid (by omega)
      have HQ1 := Lib.hid hq
      generalize hz : (q : Int) = z at hq0 hq HQ ⊢
      have HZ := Lib.hid hz
      clear hz
      go_wp2_with fail
      go_round
      case rel => 
        exact ⟨q / 256, k + 1, Int.lt_of_le_of_lt (by omega) HQ1.out, by rw [HQ.out], by first | rfl | go_num, by have := HD.out; have := HDS.out; omega⟩
      all_goals (show (z / 256).toNat < z.toNat; omega)
end Go.Proofs.YtofhccpagnkalaaGreat
