/- Several texts in one: Vne, VneH. What each proves stands ahead of it. -/
import Derived.Test.YtofhccpagnkalaaBunVp
/- The law VowNever, walked; no conditions. -/
namespace Go.Proofs.Ytofhccpagnkalaa
open Go.RowKit Go.Maps Go.Proofs.Own Go.Shelf

theorem OpsIs.below {w w' : World} {v : Value} {rs : List VOp} (h : OpsIs w v rs) (hb : Below w.heap.size w w') : OpsIs w' v rs := ⟨h.1.below hb, fun r hr => ⟨(h.2.1 r hr).1, (h.2.1 r hr).2.1, (h.2.1 r hr).2.2.below hb⟩, h.2.2⟩
/-- The cells of a call in block b from o on. -/
structure OC (w : World) (b o : Nat) (r : VOp) : Prop where
  c0 : w.cell? ⟨b, o, none⟩ = some (.int .i64 r.k)
  c1 : w.cell? ⟨b, o + 1, none⟩ = some (.int .i64 r.n)
  c2 : w.cell? ⟨b, o + 2, none⟩ = some (.int .u64 r.t)
  c3 : w.cell? ⟨b, o + 3, none⟩ = some (.int .i64 r.v)
  c4 : w.cell? ⟨b, o + 4, none⟩ = some r.tv
theorem OC.kept {w w' : World} {b o : Nat} {r : VOp} {S : Nat → Prop} (h : OC w b o r) (hk : Kept w w' S) (hs : ¬ S b) : OC w' b o r :=
  ⟨hk.cell h.c0 hs, hk.cell h.c1 hs, hk.cell h.c2 hs, hk.cell h.c3 hs, hk.cell h.c4 hs⟩
theorem OC.below {w w' : World} {b o : Nat} {r : VOp} (h : OC w b o r) (hb : Below w.heap.size w w') : OC w' b o r := h.kept (Kept.of_below hb (S := fun _ => False) fun k h1 h2 => by omega) (fun h => h)
theorem OC.box (w : World) (r : VOp) : OC (w.alloc (.cells #[.int .i64 r.k, .int .i64 r.n, .int .u64 r.t, .int .i64 r.v, r.tv] 77)) w.heap.size 0 r := ⟨by go_cell, by go_cell, by go_cell, by go_cell, by go_cell⟩
theorem OpsIs.at {w : World} {a : Option Addr} {n c : Nat} {rs : List VOp} (h : OpsIs w (.slice a n c) rs) {j : Nat} {r : VOp} (hj : rs[j]? = some r) : ∃ b o, a = some ⟨b, o, none⟩ ∧ b < w.heap.size ∧ OC w b (o + j * 5) r := by
  obtain ⟨hl, he⟩ := List.getElem?_eq_some_iff.1 hj
  obtain ⟨b, o, h1, h2, h3⟩ := h.1.at (j := j) (by rw [List.length_map]; exact hl)
  rw [List.getElem_map, he] at h3
  exact ⟨b, o, h1, h2, by have := h3 0 _ rfl; rwa [Nat.add_zero] at this, h3 1 _ rfl, h3 2 _ rfl, h3 3 _ rfl, h3 4 _ rfl⟩
theorem TearsIs.apart {w : World} {a : Option Addr} {n c : Nat} {ts : List (Nat × Nat)} (h : TearsIs w (.slice a n c) ts) {R : Nat → Prop} (hR : ∀ k, R k → w.heap.size ≤ k) : ts = [] ∨ ∀ b, (Value.slice a n c).ownBlock = some b → ¬ R b := by
  rcases ts with _ | ⟨x, ts⟩
  · exact .inl rfl
  · obtain ⟨_, _, b', o, rfl, h, _⟩ := h.head
    refine .inr fun b hb e => ?_
    obtain rfl : b' = b := Option.some.inj hb
    have := hR _ e
    have := World.block_lt_of_cell? _ _ h
    simp only at this
    omega

def vLight (rs : List VOp) : Bool := rs.all (fun r => decide (r.ts.length ≤ 40)) && decide (rs.length ≤ 120)
set_option maxHeartbeats 1600000 in
set_option maxRecDepth 20000 in
theorem vlight_any (v : Value) (rs : List VOp) (w : World) (h : OpsIs w v rs) : Calls Try.prog 37 #[v] w fun e w' => e = .returned (.bool (vLight rs)) ∧ Below w.heap.size w w' := by
  obtain ⟨la, lc, rfl, _⟩ := h.1.shape
  rw [List.length_map] at h ⊢
  obtain ⟨n, hn⟩ : ∃ n, rs.length = n := ⟨_, rfl⟩
  have HN := Lib.hid hn
  have HL := Lib.hid h
  have hmx := h.2.2
  rw [hn] at HL hmx ⊢
  unfold maxLen at hmx
  clear h hn
  go_enter Try.func37, Try.ntmps37
  go_wp2_with fail
  go_loopw [7] (fun i wr => ∃ j : Nat, i = .int .i64 j ∧ j ≤ n ∧ (∀ r ∈ rs.take j, r.ts.length ≤ 40) ∧ Below w.heap.size w wr) (fun i _ => n - (intOf i).toNat)
  case atStart => exact ⟨0, rfl, by omega, by simp, Below.refl _ _⟩
  case round =>
    obtain ⟨j, rfl, hj, hall, hb⟩ := hrel
    have BR := Lib.hid hb
    have HA := Lib.hid hall
    clear hb hall
    by_cases hlt : j < n
    · obtain ⟨r, hr, hm⟩ := getAt (l := rs) (j := j) (by rw [HN.out]; exact hlt)
      obtain ⟨b, o, rfl, hbl, hc⟩ := (HL.out.below BR.out).at hr
      obtain ⟨ta, tc, htv, _⟩ := ((HL.out.2.1 r hm).2.2).1.shape
      rw [List.length_map] at htv
      have HR := Lib.hid hr
      have HM := Lib.hid hm
      obtain ⟨x0, x1, x2, x3, x4⟩ := hc
      rw [htv] at x4
      clear hr hm htv
      obtain ⟨m, hm⟩ : ∃ m, r.ts.length = m := ⟨_, rfl⟩
      have HT := Lib.hid hm
      rw [hm] at x4
      clear hm
      by_cases h40 : m ≤ 40
      · have b1 : ¬ (40 : Int) < (m : Int) := by omega
        go_wp2_with fail
        go_roundw
        case rel =>
          refine ⟨j + 1, by first | rfl | go_num, by omega, fun q hq => ?_, BR.out.alloc BR.out.size _⟩
          rw [List.take_add_one, HR.out] at hq
          rcases List.mem_append.1 hq with hq | hq
          · exact HA.out q hq
          · obtain rfl := List.mem_singleton.1 hq
            rw [HT.out]
            exact h40
        all_goals (show n - ((j : Int) + 1).toNat < n - ((j : Int)).toNat; omega)
      · have b1 : (40 : Int) < (m : Int) := by omega
        have HV : Hid (vLight rs = false) := Lib.hid (by
          unfold vLight
          have : rs.all (fun r => decide (r.ts.length ≤ 40)) = false := by
            rw [List.all_eq_false]
            exact ⟨r, HM.out, by rw [HT.out]; simpa using h40⟩
          rw [this]
          rfl)
        go_wp2_with fail
        go_ret
        exact ⟨by rw [HV.out]; rfl, BR.out.alloc BR.out.size _⟩
    · obtain rfl : j = n := by omega
      have hal : rs.all (fun r => decide (r.ts.length ≤ 40)) = true := by
        rw [List.all_eq_true]
        intro r hr
        have := HA.out r (by rw [List.take_of_length_le (by rw [HN.out]; exact Nat.le_refl _)]; exact hr)
        simpa using this
      by_cases h1 : j ≤ 120
      · have b1 : (j : Int) ≤ 120 := by omega
        have HV : Hid (vLight rs = true) := Lib.hid (by unfold vLight; rw [hal, HN.out]; simpa using h1)
        clear hal
        go_wp2_with fail
        go_ret
        exact ⟨by rw [HV.out]; rfl, BR.out⟩
      · have b1 : ¬ (j : Int) ≤ 120 := by omega
        have HV : Hid (vLight rs = false) := Lib.hid (by unfold vLight; rw [hal, HN.out]; simpa using h1)
        clear hal
        go_wp2_with fail
        go_ret
        exact ⟨by rw [HV.out]; rfl, BR.out⟩

set_option maxHeartbeats 1600000 in
set_option maxRecDepth 20000 in
theorem vnever_bad (room : Int) (v : Value) (rs : List VOp) (w : World) (h : OpsIs w v rs) (hb : ¬ (0 ≤ room ∧ room ≤ 1048576 ∧ vLight rs = true)) : Calls Try.prog 9 #[.int .i64 room, v] w fun e w' => e = .returned (.bool true) ∧ Below w.heap.size w w' := by
  have HL := Lib.hid h
  obtain ⟨la, lc, rfl, _⟩ := h.1.shape
  clear h
  rw [List.length_map] at HL ⊢
  generalize hn : rs.length = n at HL ⊢
  by_cases h1 : 0 ≤ room
  · have c1 : ¬ room < 0 := by omega
    by_cases h2 : room ≤ 1048576
    · have c2 : ¬ 1048576 < room := by omega
      have HV : Hid (vLight rs = false) := Lib.hid (by simpa [h1, h2] using hb)
      clear hb h1 h2
      go_enter Try.func9, Try.ntmps9
      go_wp2_with fail
      refine (vlight_any _ rs w HL.out).mono ?_
      rintro e w1 ⟨rfl, hb1⟩
      rw [HV.out]
      have B1 := Lib.hid hb1
      clear hb1
      go_wp2_with fail
      refine (vlives_any _).mono ?_
      rintro e wz ⟨rfl, hbz⟩
      have BZ := Lib.hid hbz
      clear hbz
      go_wp2_with fail
      go_ret
      exact ⟨rfl, B1.out.trans (BZ.out.mono B1.out.size)⟩
    · have c2 : 1048576 < room := by omega
      clear hb h1 h2
      go_enter Try.func9, Try.ntmps9
      go_wp2_with fail
      refine (vlives_any _).mono ?_
      rintro e wz ⟨rfl, hbz⟩
      have BZ := Lib.hid hbz
      clear hbz
      go_wp2_with fail
      go_ret
      exact ⟨rfl, BZ.out⟩
  · have c1 : room < 0 := by omega
    clear hb h1
    go_enter Try.func9, Try.ntmps9
    go_wp2_with fail
    refine (vlives_any _).mono ?_
    rintro e wz ⟨rfl, hbz⟩
    have BZ := Lib.hid hbz
    clear hbz
    go_wp2_with fail
    go_ret
    exact ⟨rfl, BZ.out⟩

def MayOr (t v p q : Int) : Prop := (p = t ∧ q = v) ∨ vMy t v p q = true
theorem vmy_cases {t v p q : Int} (h : MayOr t v p q) : (p = t ∧ q = v) ∨ (p = t ∧ q ≠ v ∧ v = -1) ∨ (t < p ∧ p ≠ t) := by
  rcases h with h | h
  · exact .inl h
  · unfold vMy at h
    simp only [Bool.and_eq_true] at h
    have h2 := h.2.2
    by_cases hp : p = t
    · rw [if_pos hp] at h2
      by_cases hq : q = v
      · exact .inl ⟨hp, hq⟩
      · exact .inr (.inl ⟨hp, hq, by simpa [hq] using h2⟩)
    · rw [if_neg hp] at h2
      exact .inr (.inr ⟨by simpa using h2, hp⟩)
def dRoom (room : Int) : DiskS := ⟨room, [], false, -1, 0⟩
theorem dRoom_good {room : Int} (h0 : 0 ≤ room) (h1 : room ≤ 1048576) : DGood (dRoom room) := ⟨⟨h0, h1, by show (-1 : Int) ≤ -1; decide, by show (-1 : Int) ≤ _; decide, by show (0 : Int) ≤ 0; decide, by show (0 : Int) ≤ _; decide, by show 0 ≤ 1000; decide, fun f h => by cases h⟩, by show total [] ≤ _; decide, by show 0 ≤ 128; decide⟩
theorem dRoom_open (room : Int) : vopenD (dRoom room) = (dRoom room, 0) ∧ vopenS (dRoom room) = ⟨0, -1, 0⟩ := ⟨rfl, rfl⟩

set_option maxHeartbeats 8000000 in
set_option maxRecDepth 20000 in
theorem vnever_good (room : Int) (rs : List VOp) (la : Option Addr) (lc : Nat) (w : World) (hl : OpsIs w (.slice la rs.length lc) rs) (h0 : 0 ≤ room) (h1 : room ≤ 1048576) (h2 : vLight rs = true) : Calls Try.prog 9 #[.int .i64 room, .slice la rs.length lc] w fun e w' => e = .returned (.bool true) ∧ Below w.heap.size w w' := by
  have HL := Lib.hid hl
  have HLT := Lib.hid h2
  have HR := Lib.hid (And.intro h0 h1)
  obtain ⟨n, hn⟩ : ∃ n, rs.length = n := ⟨_, rfl⟩
  have HN := Lib.hid hn
  have H120 : Hid (n ≤ 120) := Lib.hid (by unfold vLight at h2; simp only [Bool.and_eq_true, decide_eq_true_eq] at h2; omega)
  rw [hn] at HL ⊢
  have b120 : (n : Int) ≤ 120 := by have := H120.out; omega
  have c1 : ¬ room < 0 := by omega
  have c2 : ¬ 1048576 < room := by omega
  clear hl h0 h1 h2 hn
  go_enter Try.func9, Try.ntmps9
  go_wp2_with fail
  refine (vlight_any _ rs w HL.out).mono ?_
  rintro e wl ⟨rfl, hbl⟩
  rw [HLT.out]
  have BL := Lib.hid hbl
  clear hbl
  go_wp2_with fail
  refine (dnew room wl HR.out.1 HR.out.2).mono ?_
  rintro e w1 ⟨db, mb, tb, rfl, hd1, hb1, h1, h2, h3⟩
  have D1 : Hid (DiskIs w1 db mb tb (dRoom room)) := Lib.hid hd1
  have B1 : Hid (Below w.heap.size w w1) := Lib.hid (BL.out.trans (hb1.mono BL.out.size))
  have HO : Hid (∀ k, Own3 db mb tb k → w.heap.size ≤ k) := Lib.hid (by have := BL.out.size; rintro k (rfl | rfl | rfl) <;> omega)
  have L1 := B1.out.size
  clear hd1 hb1 h1 h2 h3 BL c1 c2
  go_wp2_with fail
  refine (vopen_any db mb tb (dRoom room) w1 D1.out (dRoom_good HR.out.1 HR.out.2) (by show (0 : Int) + 2 ≤ _; decide)).mono ?_
  rintro e w2 ⟨-, hok, hd2, hk2⟩
  rw [(dRoom_open room).1] at hok hd2
  rw [(dRoom_open room).2] at hok
  obtain ⟨b0, rfl, hbk, hbb⟩ := hok rfl
  have D2 := Lib.hid hd2
  have K2 := Lib.hid hbk
  have B2 : Hid (Below w.heap.size w w2) := Lib.hid (B1.out.trans (hk2.below L1 HO.out))
  have NB0 : Hid (¬ Own3 db mb tb b0) := Lib.hid (fun h => by have := D1.out.lt3 _ h; omega)
  have HB0 : Hid (w.heap.size ≤ b0) := Lib.hid (Nat.le_trans L1 hbb)
  clear hok hd2 hk2 hbk hbb
  go_wp2_with fail
  refine (vstate_any b0 db 0 (-1) w2 K2.out).mono ?_
  rintro e w3 ⟨rfl, hb3⟩
  have D3 := Lib.hid (D2.out.below hb3)
  have K3 := Lib.hid (K2.out.below hb3)
  have B3 : Hid (Below w.heap.size w w3) := Lib.hid (B2.out.trans (hb3.mono B2.out.size))
  clear hb3
  have L3 := K3.out.lt
  go_wp2_with fail
  have AA : Below w3.heap.size w3 (w3.alloc (.cells #[.int .u64 0, .int .i64 (-1)] 40)) := (Below.refl _ _).alloc (Nat.le_refl _) _
  have SA0 := SC.box w3 0 (-1)
  generalize World.alloc w3 _ = w0 at *
  have D0 := Lib.hid (D3.out.below AA)
  have K0 := Lib.hid (K3.out.below AA)
  have B0 : Hid (Below w.heap.size w w0) := Lib.hid (B3.out.trans (AA.mono B3.out.size))
  have S0 := Lib.hid SA0
  have NW : Hid (¬ Own3 db mb tb w3.heap.size) := Lib.hid (fun h => by have := D3.out.lt3 _ h; omega)
  have HBW : Hid (w.heap.size ≤ w3.heap.size) := Lib.hid B3.out.size
  have NBW0 : Hid (b0 ≠ w3.heap.size) := Lib.hid (by omega)
  generalize w3.heap.size = bw at *
  clear SA0 AA D1 B1 L1 D2 K2 B2 D3 K3 B3 L3
  go_loopw [6, 41] (fun bv i wr => ∃ (j : Nat) (t v : Int) (bb : Nat) (D : DiskS), bv = .pointer (some ⟨bb, 0, none⟩) ∧ i = .int .i64 j ∧ j ≤ n ∧ D.steps ≤ 7 * j ∧ DGood D ∧ D.down = false ∧ VFile D t v ∧ DiskIs wr db mb tb D ∧ BookIs wr bb db t v ∧ SC wr bw t v ∧ ¬ Own3 db mb tb bb ∧ bb ≠ bw ∧ Below w.heap.size w wr ∧ w.heap.size ≤ bb) (fun _ i _ => n - (intOf i).toNat)
  case atStart => exact ⟨0, 0, -1, b0, dRoom room, rfl, rfl, by omega, by show (0 : Int) ≤ _; omega, dRoom_good HR.out.1 HR.out.2, rfl, VFile.empty rfl, D0.out, K0.out, S0.out, NB0.out, NBW0.out, B0.out, HB0.out⟩
  case round =>
    obtain ⟨j, t, v, bb, D, rfl, rfl, hj, hst, hg, hdn, hvf, hd, hb, hs0, hnb, hnw, hbl, hbb⟩ := hrel
    have SZ0 := Lib.hid hst
    have GR := Lib.hid hg
    have HDN := Lib.hid hdn
    have VF := Lib.hid hvf
    have DR := Lib.hid hd
    have KR := Lib.hid hb
    have SWR := Lib.hid hs0
    have NBB := Lib.hid hnb
    have NBW := Lib.hid hnw
    have BR := Lib.hid hbl
    have HBB := Lib.hid hbb
    clear hst hg hdn hvf hd hb hs0 hnb hnw hbl hbb
    clear D0 K0 S0 B0 NB0 NBW0 HB0
    by_cases hlt : j < n
    · obtain ⟨r, hr, hm⟩ := getAt (l := rs) (j := j) (by rw [HN.out]; exact hlt)
      obtain ⟨b, o, rfl, hbl, hc⟩ := (HL.out.below BR.out).at hr
      obtain ⟨ok1, ok2, ok3⟩ := HL.out.2.1 r hm
      obtain ⟨rk, rn, rt, rv, rtv, rts⟩ := r
      simp only at ok1 ok2 ok3
      obtain ⟨ra, rc, rfl, _⟩ := ok3.1.shape
      rw [List.length_map] at hc ok3 hr
      clear hr hm
      have HRN := Lib.hid ok1
      have HRT := Lib.hid ok2
      have HTS := Lib.hid ok3
      have HTA := Lib.hid (ok3.apart HO.out)
      obtain ⟨m, hm⟩ : ∃ m, rts.length = m := ⟨_, rfl⟩
      rw [hm] at hc HTS HTA
      clear ok1 ok2 ok3 hm
      obtain ⟨x0, x1, x2, x3, x4⟩ := hc
      simp only at x0 x1 x2 x3 x4
      have AX : Below wr.heap.size wr (wr.alloc (.cells #[.int .i64 rk, .int .i64 rn, .int .u64 rt, .int .i64 rv, .slice ra m rc] 77)) := (Below.refl _ _).alloc (Nat.le_refl _) _
      have OX := OC.box wr ⟨rk, rn, rt, rv, .slice ra m rc, rts⟩
      simp only at OX
      have NX : Hid (¬ Own3 db mb tb wr.heap.size ∧ wr.heap.size ≠ bb ∧ wr.heap.size ≠ bw) := Lib.hid ⟨fun h => by have := DR.out.lt3 _ h; omega, by have := KR.out.lt; omega, by have := SWR.out.lt; omega⟩
      by_cases hk1 : rk = 1
      · subst hk1
        go_wp2_with fail
        generalize World.alloc wr _ = wx at *
        have DX := Lib.hid (DR.out.below AX)
        have KX := Lib.hid (KR.out.below AX)
        have SWX := Lib.hid (SWR.out.below AX)
        have OXX := Lib.hid OX
        have BX : Hid (Below w.heap.size w wx) := Lib.hid (BR.out.trans (AX.mono BR.out.size))
        generalize wr.heap.size = bo at *
        clear AX OX DR KR SWR BR x0 x1 x2 x3 x4
        refine (dcrash_any db mb tb D _ rts wx DX.out GR.out (HTS.out.below BX.out) HTA.out).mono ?_
        rintro e wb ⟨rfl, hd4, hk4⟩
        have RI0 : Hid (Rising D.files) := Lib.hid (by obtain ⟨_, h, _⟩ := DX.out.fs; exact h.rising)
        have DB : Hid (DiskIs wb db mb tb (crashD D rts)) := Lib.hid hd4
        have GB := Lib.hid (GR.out.crash rts)
        have SB : Hid ((crashD D rts).steps ≤ 7 * (j : Int) + 4) := Lib.hid (by show D.steps ≤ _; have := SZ0.out; omega)
        have DNB : Hid ((crashD D rts).down = true) := Lib.hid rfl
        have LB : Hid (VLoose (crashD D rts) t v t v) := Lib.hid ((VF.out.crash RI0.out rts).loose _ _)
        have MB : Hid (MayOr t v t v) := Lib.hid (.inl ⟨rfl, rfl⟩)
        have OB := Lib.hid (OXX.out.kept hk4 NX.out.1)
        have SWB := Lib.hid (SWX.out.kept hk4 NW.out)
        have BB : Hid (Below w.heap.size w wb) := Lib.hid (BX.out.trans (hk4.below BX.out.size HO.out))
        clear hd4 hk4 RI0 DX KX SWX OXX BX
        generalize crashD D rts = Db at *
        obtain ⟨z0, z1, z2, z3, z4⟩ := OB.out
        simp only at z0 z1 z2 z3 z4
        go_wp2_with fail
        refine (ddown_any db mb tb Db wb DB.out).mono ?_
        rintro e wb' ⟨rfl, rfl⟩
        rw [DNB.out]
        go_wp2_with fail
        refine (dcrash_any db mb tb Db _ rts wb DB.out GB.out (HTS.out.below BB.out) HTA.out).mono ?_
        rintro e w4 ⟨rfl, hd4, hk4⟩
        have D4 := Lib.hid hd4
        have RI : Hid (Rising Db.files) := Lib.hid (by obtain ⟨_, h, _⟩ := DB.out.fs; exact h.rising)
        have G4 := Lib.hid (GB.out.crash rts)
        have SW4 := Lib.hid (SWB.out.kept hk4 NW.out)
        have B4 : Hid (Below w.heap.size w w4) := Lib.hid (BB.out.trans (hk4.below BB.out.size HO.out))
        clear hd4 hk4
        go_wp2_with fail
        refine (dboot_any db mb tb _ w4 D4.out).mono ?_
        rintro e w5 ⟨rfl, hd5, hk5⟩
        have D5 : Hid (DiskIs w5 db mb tb (bootD (crashD Db rts))) := Lib.hid hd5
        have G5 := Lib.hid G4.out.boot
        have Z5 : Hid ((bootD (crashD Db rts)).steps ≤ 7 * (j : Int) + 4) := Lib.hid SB.out
        have SW5 := Lib.hid (SW4.out.kept hk5 NW.out)
        have B5 : Hid (Below w.heap.size w w5) := Lib.hid (B4.out.trans (hk5.below B4.out.size HO.out))
        have L5 := D5.out.lt3
        clear hd5 hk5 DB GB SWB BB D4 G4 SW4 B4
        have CL := crash_law RI.out LB.out rts
        clear LB RI
        generalize bootD (crashD Db rts) = D' at *
        obtain ⟨c1, c2, p, q, hpq, c3, c4, c5⟩ := CL
        have HPQ := Lib.hid hpq
        have HC1 := Lib.hid c1
        have HC2 := Lib.hid c2
        have HC3 := Lib.hid c3
        have HC4 := Lib.hid c4
        have FA := Lib.hid c5
        clear hpq c1 c2 c3 c4 c5
        go_wp2_with fail
        refine (vopen_any db mb tb D' w5 D5.out G5.out (by have := Z5.out; have := H120.out; omega)).mono ?_
        rintro e wa2 ⟨-, hok, hd6, hk6⟩
        obtain ⟨bc, rfl, hbk, hbb⟩ := hok HC1.out
        rw [HC3.out, HC4.out] at hbk
        have GO := vopenD_good G5.out (by have := Z5.out; have := H120.out; omega)
        have KA := Lib.hid hbk
        have SWA := Lib.hid (SW5.out.kept hk6 NW.out)
        have BA : Hid (Below w.heap.size w wa2) := Lib.hid (B5.out.trans (hk6.below B5.out.size HO.out))
        have DA := Lib.hid hd6
        have GA := Lib.hid GO.1
        have SA : Hid ((vopenD D').1.steps ≤ 7 * ((j + 1 : Nat) : Int)) := Lib.hid (by have h1 := GO.2; have h2 := Z5.out; omega)
        have DNA : Hid ((vopenD D').1.down = false) := Lib.hid HC2.out.1
        have HMY : Hid (MayOr t v p q) := Lib.hid (by
          rcases HPQ.out with h | ⟨h1, h2⟩
          · exact .inl h
          · rw [h1, h2]; exact MB.out)
        have NBB : Hid (¬ Own3 db mb tb bc) := Lib.hid (fun h => by have := D5.out.lt3 _ h; omega)
        have HBB : Hid (w.heap.size ≤ bc) := Lib.hid (Nat.le_trans B5.out.size hbb)
        have NBC : Hid (bc ≠ bw) := Lib.hid (by have := SW5.out.lt; omega)
        clear hok hd6 hk6 hbk hbb GO SW5 B5 D5 G5 L5 HPQ
        go_wp2_with fail
        refine (vstate_any bc db p q wa2 KA.out).mono ?_
        rintro e ws ⟨rfl, hbs⟩
        have DTZ := Lib.hid (((DA.out.below hbs).sc (SWA.out.below hbs) NW.out p q).below ((Below.refl _ _).alloc (Nat.le_refl _) (.cells #[.int .u64 p, .int .i64 q] 40)))
        have KTZ := Lib.hid (((KA.out.below hbs).kept (Kept.set2 _ bw (.int .u64 p) (.int .i64 q)) (NBC.out)).below ((Below.refl _ _).alloc (Nat.le_refl _) (.cells #[.int .u64 p, .int .i64 q] 40)))
        have SWZ := Lib.hid (((SWA.out.below hbs).set p q).below ((Below.refl _ _).alloc (Nat.le_refl _) (.cells #[.int .u64 p, .int .i64 q] 40)))
        have BTZ : Hid (Below w.heap.size w (((ws.setCell ⟨bw, 0, none⟩ (.int .u64 p)).setCell ⟨bw, 1, none⟩ (.int .i64 q)).alloc (.cells #[.int .u64 p, .int .i64 q] 40))) := Lib.hid (by
          have h := BA.out.trans (hbs.mono BA.out.size)
          have h2 := h.trans ((Kept.set2 ws bw (.int .u64 p) (.int .i64 q)).below h.size (fun k hk => by have := HBW.out; omega))
          exact h2.alloc h2.size _)
        obtain ⟨y0, y1, y2, y3⟩ := SWA.out.below hbs
        have hbwl : bw < ws.heap.size := by have h1 := SWA.out.lt; have h2 := hbs.size; omega
        clear hbs DA KA SWA BA
        rcases vmy_cases HMY.out with ⟨h1, h2⟩ | ⟨h1, h2, h3⟩ | ⟨h1, h2⟩
        · have d1 : ¬ p < t := by omega
          have d2 : (p == t) = true := beq_iff_eq.2 h1
          have d3 : (q != v) = false := bne_eq_false_iff_eq.2 h2
          clear h1 h2
          go_wp2_with fail
          generalize World.alloc _ _ = wz at *
          go_roundw
          case rel => exact ⟨j + 1, p, q, bc, (vopenD D').1, by first | rfl | go_num, by first | rfl | go_num, by omega, SA.out, GA.out, DNA.out, FA.out, DTZ.out, KTZ.out, SWZ.out, NBB.out, NBC.out, BTZ.out, HBB.out⟩
          all_goals (show n - ((j : Int) + 1).toNat < n - ((j : Int)).toNat; omega)
        · have d1 : ¬ p < t := by omega
          have d2 : (p == t) = true := beq_iff_eq.2 h1
          have d3 : (q != v) = true := bne_iff_ne.2 h2
          have d4 : (v != -1) = false := bne_eq_false_iff_eq.2 h3
          clear h1 h2 h3
          go_wp2_with fail
          generalize World.alloc _ _ = wz at *
          go_roundw
          case rel => exact ⟨j + 1, p, q, bc, (vopenD D').1, by first | rfl | go_num, by first | rfl | go_num, by omega, SA.out, GA.out, DNA.out, FA.out, DTZ.out, KTZ.out, SWZ.out, NBB.out, NBC.out, BTZ.out, HBB.out⟩
          all_goals (show n - ((j : Int) + 1).toNat < n - ((j : Int)).toNat; omega)
        · have d1 : ¬ p < t := by omega
          have d2 : (p == t) = false := beq_eq_false_iff_ne.2 h2
          clear h1 h2
          go_wp2_with fail
          generalize World.alloc _ _ = wz at *
          go_roundw
          case rel => exact ⟨j + 1, p, q, bc, (vopenD D').1, by first | rfl | go_num, by first | rfl | go_num, by omega, SA.out, GA.out, DNA.out, FA.out, DTZ.out, KTZ.out, SWZ.out, NBB.out, NBC.out, BTZ.out, HBB.out⟩
          all_goals (show n - ((j : Int) + 1).toNat < n - ((j : Int)).toNat; omega)
      · have hk1b : (rk == 1) = false := beq_eq_false_iff_ne.2 hk1
        by_cases hk2 : rk = 2
        · subst hk2
          clear hk1b hk1
          go_wp2_with fail
          generalize World.alloc wr _ = wx at *
          have DX := Lib.hid (DR.out.below AX)
          have KX := Lib.hid (KR.out.below AX)
          have SWX := Lib.hid (SWR.out.below AX)
          have OXX := Lib.hid OX
          have BX : Hid (Below w.heap.size w wx) := Lib.hid (BR.out.trans (AX.mono BR.out.size))
          generalize wr.heap.size = bo at *
          clear AX OX DR KR SWR BR x0 x1 x2 x3 x4
          refine (darm_any db mb tb D rn wx DX.out).mono ?_
          rintro e wa ⟨rfl, hd4, hk4⟩
          have DA : Hid (DiskIs wa db mb tb (armD D rn).1) := Lib.hid hd4
          have GA := Lib.hid (GR.out.arm rn HRN.out)
          have SA : Hid ((armD D rn).1.steps ≤ 7 * ((j + 1 : Nat) : Int)) := Lib.hid (by rw [(armD_same D rn).2.2]; have := SZ0.out; omega)
          have DNA : Hid ((armD D rn).1.down = false) := Lib.hid (by rw [(armD_same D rn).2.1]; exact HDN.out)
          have FA := Lib.hid (VF.out.files (armD_same D rn).1)
          have KA := Lib.hid (KX.out.kept hk4 NBB.out)
          have SWA := Lib.hid (SWX.out.kept hk4 NW.out)
          have BA : Hid (Below w.heap.size w wa) := Lib.hid (BX.out.trans (hk4.below BX.out.size HO.out))
          have HMY : Hid (MayOr t v t v) := Lib.hid (.inl ⟨rfl, rfl⟩)
          clear hd4 hk4 DX KX SWX OXX BX
          generalize (armD D rn).1 = Da at *
          go_wp2_with fail
          refine (ddown_any db mb tb Da wa DA.out).mono ?_
          rintro e wa' ⟨rfl, rfl⟩
          rw [DNA.out]
          go_wp2_with fail
          refine (vstate_any bb db t v wa KA.out).mono ?_
          rintro e ws ⟨rfl, hbs⟩
          have DTZ := Lib.hid (((DA.out.below hbs).sc (SWA.out.below hbs) NW.out t v).below ((Below.refl _ _).alloc (Nat.le_refl _) (.cells #[.int .u64 t, .int .i64 v] 40)))
          have KTZ := Lib.hid (((KA.out.below hbs).kept (Kept.set2 _ bw (.int .u64 t) (.int .i64 v)) (NBW.out)).below ((Below.refl _ _).alloc (Nat.le_refl _) (.cells #[.int .u64 t, .int .i64 v] 40)))
          have SWZ := Lib.hid (((SWA.out.below hbs).set t v).below ((Below.refl _ _).alloc (Nat.le_refl _) (.cells #[.int .u64 t, .int .i64 v] 40)))
          have BTZ : Hid (Below w.heap.size w (((ws.setCell ⟨bw, 0, none⟩ (.int .u64 t)).setCell ⟨bw, 1, none⟩ (.int .i64 v)).alloc (.cells #[.int .u64 t, .int .i64 v] 40))) := Lib.hid (by
            have h := BA.out.trans (hbs.mono BA.out.size)
            have h2 := h.trans ((Kept.set2 ws bw (.int .u64 t) (.int .i64 v)).below h.size (fun k hk => by have := HBW.out; omega))
            exact h2.alloc h2.size _)
          obtain ⟨y0, y1, y2, y3⟩ := SWA.out.below hbs
          have hbwl : bw < ws.heap.size := by have h1 := SWA.out.lt; have h2 := hbs.size; omega
          clear hbs DA KA SWA BA
          rcases vmy_cases HMY.out with ⟨h1, h2⟩ | ⟨h1, h2, h3⟩ | ⟨h1, h2⟩
          · have d1 : ¬ t < t := by omega
            have d2 : (t == t) = true := beq_iff_eq.2 h1
            have d3 : (v != v) = false := bne_eq_false_iff_eq.2 h2
            clear h1 h2
            go_wp2_with fail
            generalize World.alloc _ _ = wz at *
            go_roundw
            case rel => exact ⟨j + 1, t, v, bb, Da, by first | rfl | go_num, by first | rfl | go_num, by omega, SA.out, GA.out, DNA.out, FA.out, DTZ.out, KTZ.out, SWZ.out, NBB.out, NBW.out, BTZ.out, HBB.out⟩
            all_goals (show n - ((j : Int) + 1).toNat < n - ((j : Int)).toNat; omega)
          · have d1 : ¬ t < t := by omega
            have d2 : (t == t) = true := beq_iff_eq.2 h1
            have d3 : (v != v) = true := bne_iff_ne.2 h2
            have d4 : (v != -1) = false := bne_eq_false_iff_eq.2 h3
            clear h1 h2 h3
            go_wp2_with fail
            generalize World.alloc _ _ = wz at *
            go_roundw
            case rel => exact ⟨j + 1, t, v, bb, Da, by first | rfl | go_num, by first | rfl | go_num, by omega, SA.out, GA.out, DNA.out, FA.out, DTZ.out, KTZ.out, SWZ.out, NBB.out, NBW.out, BTZ.out, HBB.out⟩
            all_goals (show n - ((j : Int) + 1).toNat < n - ((j : Int)).toNat; omega)
          · have d1 : ¬ t < t := by omega
            have d2 : (t == t) = false := beq_eq_false_iff_ne.2 h2
            clear h1 h2
            go_wp2_with fail
            generalize World.alloc _ _ = wz at *
            go_roundw
            case rel => exact ⟨j + 1, t, v, bb, Da, by first | rfl | go_num, by first | rfl | go_num, by omega, SA.out, GA.out, DNA.out, FA.out, DTZ.out, KTZ.out, SWZ.out, NBB.out, NBW.out, BTZ.out, HBB.out⟩
            all_goals (show n - ((j : Int) + 1).toNat < n - ((j : Int)).toNat; omega)
        · have hk2b : (rk == 2) = false := beq_eq_false_iff_ne.2 hk2
          by_cases hk3 : rk = 3
          · subst hk3
            clear hk1b hk1 hk2b hk2
            go_wp2_with fail
            generalize World.alloc wr _ = wx at *
            have DX := Lib.hid (DR.out.below AX)
            have KX := Lib.hid (KR.out.below AX)
            have SWX := Lib.hid (SWR.out.below AX)
            have OXX := Lib.hid OX
            have BX : Hid (Below w.heap.size w wx) := Lib.hid (BR.out.trans (AX.mono BR.out.size))
            generalize wr.heap.size = bo at *
            clear AX OX DR KR SWR BR x0 x1 x2 x3 x4
            refine (dresize_any db mb tb D rn wx DX.out).mono ?_
            rintro e wa ⟨rfl, hd4, hk4⟩
            have DA : Hid (DiskIs wa db mb tb (resizeD D rn).1) := Lib.hid hd4
            have GA := Lib.hid (GR.out.resize rn)
            have SA : Hid ((resizeD D rn).1.steps ≤ 7 * ((j + 1 : Nat) : Int)) := Lib.hid (by rw [(resizeD_same D rn).2.2]; have := SZ0.out; omega)
            have DNA : Hid ((resizeD D rn).1.down = false) := Lib.hid (by rw [(resizeD_same D rn).2.1]; exact HDN.out)
            have FA := Lib.hid (VF.out.files (resizeD_same D rn).1)
            have KA := Lib.hid (KX.out.kept hk4 NBB.out)
            have SWA := Lib.hid (SWX.out.kept hk4 NW.out)
            have BA : Hid (Below w.heap.size w wa) := Lib.hid (BX.out.trans (hk4.below BX.out.size HO.out))
            have HMY : Hid (MayOr t v t v) := Lib.hid (.inl ⟨rfl, rfl⟩)
            clear hd4 hk4 DX KX SWX OXX BX
            generalize (resizeD D rn).1 = Da at *
            go_wp2_with fail
            refine (ddown_any db mb tb Da wa DA.out).mono ?_
            rintro e wa' ⟨rfl, rfl⟩
            rw [DNA.out]
            go_wp2_with fail
            refine (vstate_any bb db t v wa KA.out).mono ?_
            rintro e ws ⟨rfl, hbs⟩
            have DTZ := Lib.hid (((DA.out.below hbs).sc (SWA.out.below hbs) NW.out t v).below ((Below.refl _ _).alloc (Nat.le_refl _) (.cells #[.int .u64 t, .int .i64 v] 40)))
            have KTZ := Lib.hid (((KA.out.below hbs).kept (Kept.set2 _ bw (.int .u64 t) (.int .i64 v)) (NBW.out)).below ((Below.refl _ _).alloc (Nat.le_refl _) (.cells #[.int .u64 t, .int .i64 v] 40)))
            have SWZ := Lib.hid (((SWA.out.below hbs).set t v).below ((Below.refl _ _).alloc (Nat.le_refl _) (.cells #[.int .u64 t, .int .i64 v] 40)))
            have BTZ : Hid (Below w.heap.size w (((ws.setCell ⟨bw, 0, none⟩ (.int .u64 t)).setCell ⟨bw, 1, none⟩ (.int .i64 v)).alloc (.cells #[.int .u64 t, .int .i64 v] 40))) := Lib.hid (by
              have h := BA.out.trans (hbs.mono BA.out.size)
              have h2 := h.trans ((Kept.set2 ws bw (.int .u64 t) (.int .i64 v)).below h.size (fun k hk => by have := HBW.out; omega))
              exact h2.alloc h2.size _)
            obtain ⟨y0, y1, y2, y3⟩ := SWA.out.below hbs
            have hbwl : bw < ws.heap.size := by have h1 := SWA.out.lt; have h2 := hbs.size; omega
            clear hbs DA KA SWA BA
            rcases vmy_cases HMY.out with ⟨h1, h2⟩ | ⟨h1, h2, h3⟩ | ⟨h1, h2⟩
            · have d1 : ¬ t < t := by omega
              have d2 : (t == t) = true := beq_iff_eq.2 h1
              have d3 : (v != v) = false := bne_eq_false_iff_eq.2 h2
              clear h1 h2
              go_wp2_with fail
              generalize World.alloc _ _ = wz at *
              go_roundw
              case rel => exact ⟨j + 1, t, v, bb, Da, by first | rfl | go_num, by first | rfl | go_num, by omega, SA.out, GA.out, DNA.out, FA.out, DTZ.out, KTZ.out, SWZ.out, NBB.out, NBW.out, BTZ.out, HBB.out⟩
              all_goals (show n - ((j : Int) + 1).toNat < n - ((j : Int)).toNat; omega)
            · have d1 : ¬ t < t := by omega
              have d2 : (t == t) = true := beq_iff_eq.2 h1
              have d3 : (v != v) = true := bne_iff_ne.2 h2
              have d4 : (v != -1) = false := bne_eq_false_iff_eq.2 h3
              clear h1 h2 h3
              go_wp2_with fail
              generalize World.alloc _ _ = wz at *
              go_roundw
              case rel => exact ⟨j + 1, t, v, bb, Da, by first | rfl | go_num, by first | rfl | go_num, by omega, SA.out, GA.out, DNA.out, FA.out, DTZ.out, KTZ.out, SWZ.out, NBB.out, NBW.out, BTZ.out, HBB.out⟩
              all_goals (show n - ((j : Int) + 1).toNat < n - ((j : Int)).toNat; omega)
            · have d1 : ¬ t < t := by omega
              have d2 : (t == t) = false := beq_eq_false_iff_ne.2 h2
              clear h1 h2
              go_wp2_with fail
              generalize World.alloc _ _ = wz at *
              go_roundw
              case rel => exact ⟨j + 1, t, v, bb, Da, by first | rfl | go_num, by first | rfl | go_num, by omega, SA.out, GA.out, DNA.out, FA.out, DTZ.out, KTZ.out, SWZ.out, NBB.out, NBW.out, BTZ.out, HBB.out⟩
              all_goals (show n - ((j : Int) + 1).toNat < n - ((j : Int)).toNat; omega)
          · have hk3b : (rk == 3) = false := beq_eq_false_iff_ne.2 hk3
            go_wp2_with fail
            generalize World.alloc wr _ = wx at *
            have DX := Lib.hid (DR.out.below AX)
            have KX := Lib.hid (KR.out.below AX)
            have SWX := Lib.hid (SWR.out.below AX)
            have OXX := Lib.hid OX
            have BX : Hid (Below w.heap.size w wx) := Lib.hid (BR.out.trans (AX.mono BR.out.size))
            generalize wr.heap.size = bo at *
            clear AX OX DR KR SWR BR x0 x1 x2 x3 x4
            refine (vkeep_any bb db mb tb D t v rt rv wx DX.out GR.out (by have := SZ0.out; have := H120.out; omega) KX.out NBB.out HRT.out).mono ?_
            rintro e wk ⟨rfl, hdk, hbk, hkk⟩
            have KL := keep_law HDN.out VF.out rt rv HRT.out
            have GL := keepD_good t v rt rv GR.out (by have := SZ0.out; have := H120.out; omega)
            have KM : (keepD D t v rt rv).2 = 0 → vMy t v rt rv = true := keepD_may
            obtain ⟨kr, hr⟩ : ∃ kr, keepD D t v rt rv = kr := ⟨_, rfl⟩
            rw [hr] at hdk hbk KL GL KM ⊢
            obtain ⟨Dk, ek⟩ := kr
            have KL' := Lib.hid KL
            have KM' := Lib.hid KM
            have DK := Lib.hid hdk
            have GK := Lib.hid GL.1
            have SK : Hid (Dk.steps ≤ 7 * (j : Int) + 4) := Lib.hid (by have h1 := GL.2; have h2 := SZ0.out; simp only at h1; omega)
            have SWK := Lib.hid (SWX.out.kept hkk (fun h => h.elim NW.out (fun h => NBW.out h.symm)))
            have OK := Lib.hid (OXX.out.kept hkk (fun h => h.elim NX.out.1 NX.out.2.1))
            have BK : Hid (Below w.heap.size w wk) := Lib.hid (BX.out.trans (hkk.below BX.out.size (fun k hk => hk.elim (HO.out k) (fun e => e ▸ HBB.out))))
            have KB := Lib.hid hbk
            clear KL GL KM hkk hdk hr hbk DX KX SWX OXX BX
            obtain ⟨z0, z1, z2, z3, z4⟩ := OK.out
            simp only at z0 z1 z2 z3 z4
            go_wp2_with fail
            refine (ddown_any db mb tb Dk wk DK.out).mono ?_
            rintro e wk' ⟨rfl, rfl⟩
            cases hdn : Dk.down
            · have HD0 := Lib.hid hdn
              clear hdn z0 z1 z2 z3 z4
              have DA := DK
              have GA := GK
              have SA : Hid (Dk.steps ≤ 7 * ((j + 1 : Nat) : Int)) := Lib.hid (by have := SK.out; omega)
              have DNA := HD0
              have SWA := SWK
              have BA := BK
              by_cases h0 : ek = 0
              · have FA := Lib.hid (KL'.out.1 h0).2
                have HMY : Hid (MayOr t v rt rv) := Lib.hid (.inr (KM'.out h0))
                have KA : Hid (BookIs wk bb db rt rv) := Lib.hid (by have h := KB.out; rw [if_pos h0, if_pos h0] at h; exact h)
                clear h0 KB
                go_wp2_with fail
                refine (vstate_any bb db rt rv wk KA.out).mono ?_
                rintro e ws ⟨rfl, hbs⟩
                have DTZ := Lib.hid (((DA.out.below hbs).sc (SWA.out.below hbs) NW.out rt rv).below ((Below.refl _ _).alloc (Nat.le_refl _) (.cells #[.int .u64 rt, .int .i64 rv] 40)))
                have KTZ := Lib.hid (((KA.out.below hbs).kept (Kept.set2 _ bw (.int .u64 rt) (.int .i64 rv)) (NBW.out)).below ((Below.refl _ _).alloc (Nat.le_refl _) (.cells #[.int .u64 rt, .int .i64 rv] 40)))
                have SWZ := Lib.hid (((SWA.out.below hbs).set rt rv).below ((Below.refl _ _).alloc (Nat.le_refl _) (.cells #[.int .u64 rt, .int .i64 rv] 40)))
                have BTZ : Hid (Below w.heap.size w (((ws.setCell ⟨bw, 0, none⟩ (.int .u64 rt)).setCell ⟨bw, 1, none⟩ (.int .i64 rv)).alloc (.cells #[.int .u64 rt, .int .i64 rv] 40))) := Lib.hid (by
                  have h := BA.out.trans (hbs.mono BA.out.size)
                  have h2 := h.trans ((Kept.set2 ws bw (.int .u64 rt) (.int .i64 rv)).below h.size (fun k hk => by have := HBW.out; omega))
                  exact h2.alloc h2.size _)
                obtain ⟨y0, y1, y2, y3⟩ := SWA.out.below hbs
                have hbwl : bw < ws.heap.size := by have h1 := SWA.out.lt; have h2 := hbs.size; omega
                clear hbs DA KA SWA BA
                rcases vmy_cases HMY.out with ⟨h1, h2⟩ | ⟨h1, h2, h3⟩ | ⟨h1, h2⟩
                · have d1 : ¬ rt < t := by omega
                  have d2 : (rt == t) = true := beq_iff_eq.2 h1
                  have d3 : (rv != v) = false := bne_eq_false_iff_eq.2 h2
                  clear h1 h2
                  go_wp2_with fail
                  generalize World.alloc _ _ = wz at *
                  go_roundw
                  case rel => exact ⟨j + 1, rt, rv, bb, Dk, by first | rfl | go_num, by first | rfl | go_num, by omega, SA.out, GA.out, DNA.out, FA.out, DTZ.out, KTZ.out, SWZ.out, NBB.out, NBW.out, BTZ.out, HBB.out⟩
                  all_goals (show n - ((j : Int) + 1).toNat < n - ((j : Int)).toNat; omega)
                · have d1 : ¬ rt < t := by omega
                  have d2 : (rt == t) = true := beq_iff_eq.2 h1
                  have d3 : (rv != v) = true := bne_iff_ne.2 h2
                  have d4 : (v != -1) = false := bne_eq_false_iff_eq.2 h3
                  clear h1 h2 h3
                  go_wp2_with fail
                  generalize World.alloc _ _ = wz at *
                  go_roundw
                  case rel => exact ⟨j + 1, rt, rv, bb, Dk, by first | rfl | go_num, by first | rfl | go_num, by omega, SA.out, GA.out, DNA.out, FA.out, DTZ.out, KTZ.out, SWZ.out, NBB.out, NBW.out, BTZ.out, HBB.out⟩
                  all_goals (show n - ((j : Int) + 1).toNat < n - ((j : Int)).toNat; omega)
                · have d1 : ¬ rt < t := by omega
                  have d2 : (rt == t) = false := beq_eq_false_iff_ne.2 h2
                  clear h1 h2
                  go_wp2_with fail
                  generalize World.alloc _ _ = wz at *
                  go_roundw
                  case rel => exact ⟨j + 1, rt, rv, bb, Dk, by first | rfl | go_num, by first | rfl | go_num, by omega, SA.out, GA.out, DNA.out, FA.out, DTZ.out, KTZ.out, SWZ.out, NBB.out, NBW.out, BTZ.out, HBB.out⟩
                  all_goals (show n - ((j : Int) + 1).toNat < n - ((j : Int)).toNat; omega)
              · have FA := Lib.hid (KL'.out.2.1 h0 HD0.out)
                have HMY : Hid (MayOr t v t v) := Lib.hid (.inl ⟨rfl, rfl⟩)
                have KA : Hid (BookIs wk bb db t v) := Lib.hid (by have h := KB.out; rw [if_neg h0, if_neg h0] at h; exact h)
                clear h0 KB
                go_wp2_with fail
                refine (vstate_any bb db t v wk KA.out).mono ?_
                rintro e ws ⟨rfl, hbs⟩
                have DTZ := Lib.hid (((DA.out.below hbs).sc (SWA.out.below hbs) NW.out t v).below ((Below.refl _ _).alloc (Nat.le_refl _) (.cells #[.int .u64 t, .int .i64 v] 40)))
                have KTZ := Lib.hid (((KA.out.below hbs).kept (Kept.set2 _ bw (.int .u64 t) (.int .i64 v)) (NBW.out)).below ((Below.refl _ _).alloc (Nat.le_refl _) (.cells #[.int .u64 t, .int .i64 v] 40)))
                have SWZ := Lib.hid (((SWA.out.below hbs).set t v).below ((Below.refl _ _).alloc (Nat.le_refl _) (.cells #[.int .u64 t, .int .i64 v] 40)))
                have BTZ : Hid (Below w.heap.size w (((ws.setCell ⟨bw, 0, none⟩ (.int .u64 t)).setCell ⟨bw, 1, none⟩ (.int .i64 v)).alloc (.cells #[.int .u64 t, .int .i64 v] 40))) := Lib.hid (by
                  have h := BA.out.trans (hbs.mono BA.out.size)
                  have h2 := h.trans ((Kept.set2 ws bw (.int .u64 t) (.int .i64 v)).below h.size (fun k hk => by have := HBW.out; omega))
                  exact h2.alloc h2.size _)
                obtain ⟨y0, y1, y2, y3⟩ := SWA.out.below hbs
                have hbwl : bw < ws.heap.size := by have h1 := SWA.out.lt; have h2 := hbs.size; omega
                clear hbs DA KA SWA BA
                rcases vmy_cases HMY.out with ⟨h1, h2⟩ | ⟨h1, h2, h3⟩ | ⟨h1, h2⟩
                · have d1 : ¬ t < t := by omega
                  have d2 : (t == t) = true := beq_iff_eq.2 h1
                  have d3 : (v != v) = false := bne_eq_false_iff_eq.2 h2
                  clear h1 h2
                  go_wp2_with fail
                  generalize World.alloc _ _ = wz at *
                  go_roundw
                  case rel => exact ⟨j + 1, t, v, bb, Dk, by first | rfl | go_num, by first | rfl | go_num, by omega, SA.out, GA.out, DNA.out, FA.out, DTZ.out, KTZ.out, SWZ.out, NBB.out, NBW.out, BTZ.out, HBB.out⟩
                  all_goals (show n - ((j : Int) + 1).toNat < n - ((j : Int)).toNat; omega)
                · have d1 : ¬ t < t := by omega
                  have d2 : (t == t) = true := beq_iff_eq.2 h1
                  have d3 : (v != v) = true := bne_iff_ne.2 h2
                  have d4 : (v != -1) = false := bne_eq_false_iff_eq.2 h3
                  clear h1 h2 h3
                  go_wp2_with fail
                  generalize World.alloc _ _ = wz at *
                  go_roundw
                  case rel => exact ⟨j + 1, t, v, bb, Dk, by first | rfl | go_num, by first | rfl | go_num, by omega, SA.out, GA.out, DNA.out, FA.out, DTZ.out, KTZ.out, SWZ.out, NBB.out, NBW.out, BTZ.out, HBB.out⟩
                  all_goals (show n - ((j : Int) + 1).toNat < n - ((j : Int)).toNat; omega)
                · have d1 : ¬ t < t := by omega
                  have d2 : (t == t) = false := beq_eq_false_iff_ne.2 h2
                  clear h1 h2
                  go_wp2_with fail
                  generalize World.alloc _ _ = wz at *
                  go_roundw
                  case rel => exact ⟨j + 1, t, v, bb, Dk, by first | rfl | go_num, by first | rfl | go_num, by omega, SA.out, GA.out, DNA.out, FA.out, DTZ.out, KTZ.out, SWZ.out, NBB.out, NBW.out, BTZ.out, HBB.out⟩
                  all_goals (show n - ((j : Int) + 1).toNat < n - ((j : Int)).toNat; omega)
            · have HD0 := Lib.hid hdn
              clear hdn
              have DB := DK
              have GB := GK
              have SB := SK
              have LB := Lib.hid (KL'.out.2.2 HD0.out).1
              have MB : Hid (MayOr t v rt rv) := Lib.hid (.inr (KL'.out.2.2 HD0.out).2)
              have SWB := SWK
              have BB := BK
              clear DK GK SK SWK BK
              go_wp2_with fail
              refine (dcrash_any db mb tb Dk _ rts wk DB.out GB.out (HTS.out.below BB.out) HTA.out).mono ?_
              rintro e w4 ⟨rfl, hd4, hk4⟩
              have D4 := Lib.hid hd4
              have RI : Hid (Rising Dk.files) := Lib.hid (by obtain ⟨_, h, _⟩ := DB.out.fs; exact h.rising)
              have G4 := Lib.hid (GB.out.crash rts)
              have SW4 := Lib.hid (SWB.out.kept hk4 NW.out)
              have B4 : Hid (Below w.heap.size w w4) := Lib.hid (BB.out.trans (hk4.below BB.out.size HO.out))
              clear hd4 hk4
              go_wp2_with fail
              refine (dboot_any db mb tb _ w4 D4.out).mono ?_
              rintro e w5 ⟨rfl, hd5, hk5⟩
              have D5 : Hid (DiskIs w5 db mb tb (bootD (crashD Dk rts))) := Lib.hid hd5
              have G5 := Lib.hid G4.out.boot
              have Z5 : Hid ((bootD (crashD Dk rts)).steps ≤ 7 * (j : Int) + 4) := Lib.hid SB.out
              have SW5 := Lib.hid (SW4.out.kept hk5 NW.out)
              have B5 : Hid (Below w.heap.size w w5) := Lib.hid (B4.out.trans (hk5.below B4.out.size HO.out))
              have L5 := D5.out.lt3
              clear hd5 hk5 DB GB SWB BB D4 G4 SW4 B4
              have CL := crash_law RI.out LB.out rts
              clear LB RI
              generalize bootD (crashD Dk rts) = D' at *
              obtain ⟨c1, c2, p, q, hpq, c3, c4, c5⟩ := CL
              have HPQ := Lib.hid hpq
              have HC1 := Lib.hid c1
              have HC2 := Lib.hid c2
              have HC3 := Lib.hid c3
              have HC4 := Lib.hid c4
              have FA := Lib.hid c5
              clear hpq c1 c2 c3 c4 c5
              go_wp2_with fail
              refine (vopen_any db mb tb D' w5 D5.out G5.out (by have := Z5.out; have := H120.out; omega)).mono ?_
              rintro e wa2 ⟨-, hok, hd6, hk6⟩
              obtain ⟨bc, rfl, hbk, hbb⟩ := hok HC1.out
              rw [HC3.out, HC4.out] at hbk
              have GO := vopenD_good G5.out (by have := Z5.out; have := H120.out; omega)
              have KA := Lib.hid hbk
              have SWA := Lib.hid (SW5.out.kept hk6 NW.out)
              have BA : Hid (Below w.heap.size w wa2) := Lib.hid (B5.out.trans (hk6.below B5.out.size HO.out))
              have DA := Lib.hid hd6
              have GA := Lib.hid GO.1
              have SA : Hid ((vopenD D').1.steps ≤ 7 * ((j + 1 : Nat) : Int)) := Lib.hid (by have h1 := GO.2; have h2 := Z5.out; omega)
              have DNA : Hid ((vopenD D').1.down = false) := Lib.hid HC2.out.1
              have HMY : Hid (MayOr t v p q) := Lib.hid (by
                rcases HPQ.out with h | ⟨h1, h2⟩
                · exact .inl h
                · rw [h1, h2]; exact MB.out)
              have NBB : Hid (¬ Own3 db mb tb bc) := Lib.hid (fun h => by have := D5.out.lt3 _ h; omega)
              have HBB : Hid (w.heap.size ≤ bc) := Lib.hid (Nat.le_trans B5.out.size hbb)
              have NBC : Hid (bc ≠ bw) := Lib.hid (by have := SW5.out.lt; omega)
              clear hok hd6 hk6 hbk hbb GO SW5 B5 D5 G5 L5 HPQ
              go_wp2_with fail
              refine (vstate_any bc db p q wa2 KA.out).mono ?_
              rintro e ws ⟨rfl, hbs⟩
              have DTZ := Lib.hid (((DA.out.below hbs).sc (SWA.out.below hbs) NW.out p q).below ((Below.refl _ _).alloc (Nat.le_refl _) (.cells #[.int .u64 p, .int .i64 q] 40)))
              have KTZ := Lib.hid (((KA.out.below hbs).kept (Kept.set2 _ bw (.int .u64 p) (.int .i64 q)) (NBC.out)).below ((Below.refl _ _).alloc (Nat.le_refl _) (.cells #[.int .u64 p, .int .i64 q] 40)))
              have SWZ := Lib.hid (((SWA.out.below hbs).set p q).below ((Below.refl _ _).alloc (Nat.le_refl _) (.cells #[.int .u64 p, .int .i64 q] 40)))
              have BTZ : Hid (Below w.heap.size w (((ws.setCell ⟨bw, 0, none⟩ (.int .u64 p)).setCell ⟨bw, 1, none⟩ (.int .i64 q)).alloc (.cells #[.int .u64 p, .int .i64 q] 40))) := Lib.hid (by
                have h := BA.out.trans (hbs.mono BA.out.size)
                have h2 := h.trans ((Kept.set2 ws bw (.int .u64 p) (.int .i64 q)).below h.size (fun k hk => by have := HBW.out; omega))
                exact h2.alloc h2.size _)
              obtain ⟨y0, y1, y2, y3⟩ := SWA.out.below hbs
              have hbwl : bw < ws.heap.size := by have h1 := SWA.out.lt; have h2 := hbs.size; omega
              clear hbs DA KA SWA BA
              rcases vmy_cases HMY.out with ⟨h1, h2⟩ | ⟨h1, h2, h3⟩ | ⟨h1, h2⟩
              · have d1 : ¬ p < t := by omega
                have d2 : (p == t) = true := beq_iff_eq.2 h1
                have d3 : (q != v) = false := bne_eq_false_iff_eq.2 h2
                clear h1 h2
                go_wp2_with fail
                generalize World.alloc _ _ = wz at *
                go_roundw
                case rel => exact ⟨j + 1, p, q, bc, (vopenD D').1, by first | rfl | go_num, by first | rfl | go_num, by omega, SA.out, GA.out, DNA.out, FA.out, DTZ.out, KTZ.out, SWZ.out, NBB.out, NBC.out, BTZ.out, HBB.out⟩
                all_goals (show n - ((j : Int) + 1).toNat < n - ((j : Int)).toNat; omega)
              · have d1 : ¬ p < t := by omega
                have d2 : (p == t) = true := beq_iff_eq.2 h1
                have d3 : (q != v) = true := bne_iff_ne.2 h2
                have d4 : (v != -1) = false := bne_eq_false_iff_eq.2 h3
                clear h1 h2 h3
                go_wp2_with fail
                generalize World.alloc _ _ = wz at *
                go_roundw
                case rel => exact ⟨j + 1, p, q, bc, (vopenD D').1, by first | rfl | go_num, by first | rfl | go_num, by omega, SA.out, GA.out, DNA.out, FA.out, DTZ.out, KTZ.out, SWZ.out, NBB.out, NBC.out, BTZ.out, HBB.out⟩
                all_goals (show n - ((j : Int) + 1).toNat < n - ((j : Int)).toNat; omega)
              · have d1 : ¬ p < t := by omega
                have d2 : (p == t) = false := beq_eq_false_iff_ne.2 h2
                clear h1 h2
                go_wp2_with fail
                generalize World.alloc _ _ = wz at *
                go_roundw
                case rel => exact ⟨j + 1, p, q, bc, (vopenD D').1, by first | rfl | go_num, by first | rfl | go_num, by omega, SA.out, GA.out, DNA.out, FA.out, DTZ.out, KTZ.out, SWZ.out, NBB.out, NBC.out, BTZ.out, HBB.out⟩
                all_goals (show n - ((j : Int) + 1).toNat < n - ((j : Int)).toNat; omega)
    · have hlt' : ¬ (j : Int) < (n : Int) := by omega
      go_wp2_with fail
      refine (vlives_any _).mono ?_
      rintro e wz ⟨rfl, hbz⟩
      have BZ : Hid (Below w.heap.size w wz) := Lib.hid (BR.out.trans (hbz.mono BR.out.size))
      clear hbz
      go_wp2_with fail
      go_ret
      exact ⟨rfl, BZ.out⟩

theorem vnever_any (W : World) (room : Int) (v : Value) (rs : List VOp) (h : OpsIs W v rs) : Calls Try.prog 9 #[.int .i64 room, v] W fun e w' => e = .returned (.bool true) ∧ Below W.heap.size W w' := by
  by_cases hg : 0 ≤ room ∧ room ≤ 1048576 ∧ vLight rs = true
  · obtain ⟨la, lc, rfl, _⟩ := h.1.shape
    rw [List.length_map] at h ⊢
    exact vnever_good room rs la lc W h hg.1 hg.2.1 hg.2.2
  · exact vnever_bad room v rs W h hg
end Go.Proofs.Ytofhccpagnkalaa

/- THE STATEMENT VowNever: no term ever falls, and in no term are there two votes. For every input; no conditions. -/
namespace Go.Proofs.Ytofhccpagnkalaa
open Go.ChangeShapes Go.WideShapes Go.ChangeAt Go.RowKit Go.Deep Go.Proofs.Own


set_option maxRecDepth 100000 in
theorem vnever_law_lifted (os : Os) (started : os.Started) (H : Type) (enc : TypeId × Value → H) :
    ReturnsInHanded {} Try.checked os 9 .any (Rows.vowNeverSpec.pre6 enc Try.prog Try.f9 Rows.vowNeverRow.domain false) (Rows.vowNeverSpec.post enc Try.prog Try.f9 false true false false) := by
  refine returnsInHanded_of_change (C := Try.checked) own started (by kernel_rfl) Try.func9
    (ChangeSpec.witness6 (enc := enc) (C := Try.checked) false ⟨#[], #[.int .i64 0, .slice none 0 0], []⟩ 8 (by kernel_rfl) (by kernel_rfl) (by kernel_rfl) (by kernel_rfl)) ?_
  intro W base args ds gs before hval0 hW hcnd _
  have hval : ∀ (j : Nat) t v, Try.f9.params[j]? = some t → args[j]? = some v → Value.okWide Try.prog W .any base t v := hval0
  have hW' := hW
  obtain ⟨p, q, hA0, hV, _, hfz, hnd⟩ := hW
  have hA : DataW.TrodAll enc Try.prog W 0 (fun _ => true) true Try.f9.params.toList args.toList ds p := hA0
  rw [Try.params9] at hA hval
  obtain ⟨v0, v1, d0, d1, p0, p1, rfl, rfl, rfl, h0, h1⟩ := trodAll_two hA
  obtain ⟨z0, rfl⟩ := okWide_int Try.underlying3 (hval 0 3 v0 rfl rfl)
  obtain ⟨q1, n1, c1, rfl⟩ := okWide_slice Try.underlying74 (hval 1 74 v1 rfl rfl); obtain ⟨f1, g1⟩ := h1; obtain ⟨rs, b1⟩ := open_vops (v := .slice q1 n1 c1) g1
  refine (vnever_any W z0 _ rs b1).mono fun e W' ⟨he, hb⟩ => ?_
  exact ⟨_, he, law_post laid (by kernel_rfl) ⟨4, rfl, Try.underlying4⟩ rfl (fun ds hds => by
    match ds, hds with
    | [x0, x1], _ => rfl) hW' hb⟩

theorem vnever_law_holds : Rows.VowNeverSaid :=
  OpenClaim.holds_of_wide 9 Try.f9 rfl rfl rfl rfl rfl rfl rfl ⟨rfl, rfl, rfl, rfl, rfl⟩ rfl rfl rfl rfl rfl (by kernel_rfl) Try.func9 (by kernel_rfl)
    (of_decide_eq_true (by kernel_rfl)) (by unfold Func.isWrapper; first | (rw [if_pos (by decide +kernel)]; kernel_rfl) | (rw [if_neg (by decide +kernel)]; exact ⟨rfl, rfl⟩))
    (fun os started H enc _ => vnever_law_lifted os started H enc)
#print axioms vnever_law_holds
end Go.Proofs.Ytofhccpagnkalaa
