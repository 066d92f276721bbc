/- Several texts in one: Lgt, Snn, SnnH. What each proves stands ahead of it. -/
import Derived.Test.YtofhccpagnkalaaSb
import Derived.Test.YtofhccpagnkalaaNod
import Derived.Test.YtofhccpagnkalaaLiv
import Derived.Test.YtofhccpagnkalaaBunC
import Derived.Test.YtofhccpagnkalaaSame
/- Is a snapshot not more than is looked at: both answers; no conditions. -/
namespace Go.Proofs.Ytofhccpagnkalaa
open Go.RowKit Go.Maps Go.Proofs.Own

set_option maxHeartbeats 1000000 in
theorem light1_yes (i t : Int) (am ad : Option Addr) (nm cm nd cd : Nat) (w : World) (h1 : nm ≤ 30) (h2 : nd ≤ 33000) :
    Calls Try.prog 15 #[.agg #[.int .u64 i, .int .u64 t, .slice am nm cm, .slice ad nd cd]] w fun e w' => e = .returned (.bool true) ∧ Below w.heap.size w w' := by
  have b1 : (nm : Int) ≤ 30 := by omega
  have b2 : (nd : Int) ≤ 33000 := by omega
  go_enter Try.func15, Try.ntmps15
  go_wp2_with fail
  go_ret
  exact ⟨rfl, (Below.refl _ _).alloc (Nat.le_refl _) _⟩
set_option maxHeartbeats 1000000 in
theorem light1_no (i t : Int) (am ad : Option Addr) (nm cm nd cd : Nat) (w : World) (h : ¬ (nm ≤ 30 ∧ nd ≤ 33000)) :
    Calls Try.prog 15 #[.agg #[.int .u64 i, .int .u64 t, .slice am nm cm, .slice ad nd cd]] w fun e w' => e = .returned (.bool false) ∧ Below w.heap.size w w' := by
  by_cases h1 : nm ≤ 30
  · have b1 : (nm : Int) ≤ 30 := by omega
    have b2 : ¬ (nd : Int) ≤ 33000 := by omega
    clear h h1
    go_enter Try.func15, Try.ntmps15
    go_wp2_with fail
    go_ret
    exact ⟨rfl, (Below.refl _ _).alloc (Nat.le_refl _) _⟩
  · have b1 : ¬ (nm : Int) ≤ 30 := by omega
    clear h h1
    go_enter Try.func15, Try.ntmps15
    go_wp2_with fail
    go_ret
    exact ⟨rfl, (Below.refl _ _).alloc (Nat.le_refl _) _⟩

end Go.Proofs.Ytofhccpagnkalaa

/- The law SnapshotNobody, walked; no conditions. -/
namespace Go.Proofs.Ytofhccpagnkalaa
open Go.RowKit Go.Maps Go.Proofs.Own Go.Shelf

def e100 (b : Bool) : DiskS := ⟨100, [], b, -1, 0⟩
theorem e100_good : DGood (e100 false) := ⟨⟨by decide, by decide, by decide, by decide, by decide, by decide, by decide, fun f h => by cases h⟩, by decide, by decide⟩
theorem e100_good2 : DGood (e100 true) := ⟨⟨by decide, by decide, by decide, by decide, by decide, by decide, by decide, fun f h => by cases h⟩, by decide, by decide⟩
theorem e100_gone : goneD (e100 true) = (e100 true, 50) := rfl

set_option maxHeartbeats 1600000 in
set_option maxRecDepth 20000 in
theorem snobody_heavy (i t : Int) (am ad : Option Addr) (nm cm nd cd : Nat) (w : World) (h : ¬ (nm ≤ 30 ∧ nd ≤ 33000)) : Calls Try.prog 7 #[.agg #[.int .u64 i, .int .u64 t, .slice am nm cm, .slice ad nd cd]] w fun e w' => e = .returned (.bool true) ∧ Below w.heap.size w w' := by
  go_enter Try.func7, Try.ntmps7
  go_wp2_with fail
  refine (light1_no _ _ _ _ _ _ _ _ _ h).mono ?_
  rintro e w2 ⟨rfl, hb2⟩
  have B2 : Hid (Below w.heap.size w w2) := Lib.hid (((Below.refl _ _).alloc (Nat.le_refl _) _).trans (hb2.mono (by simp)))
  clear hb2 h
  go_wp2_with fail
  refine (lives_any _).mono ?_
  rintro e wz ⟨rfl, hbz⟩
  have BZ : Hid (Below w.heap.size w wz) := Lib.hid (B2.out.trans (hbz.mono B2.out.size))
  clear hbz
  go_wp2_with fail
  go_ret
  exact ⟨rfl, BZ.out⟩

theorem zeroN_is (w : World) : SnapIs w (.agg #[.int .u64 0, .int .u64 0, .slice none 0 0, .slice none 0 0]) zeroS := ⟨_, _, rfl, Ints.nil w, Bytes.nil w⟩
theorem zeroN_same : zeroS.sameB zeroS = true := by decide

set_option maxHeartbeats 1600000 in
set_option maxRecDepth 20000 in
theorem snobody_light (i t : Int) (am ad : Option Addr) (nm cm nd cd : Nat) (w : World) (h1 : nm ≤ 30) (h2 : nd ≤ 33000) : Calls Try.prog 7 #[.agg #[.int .u64 i, .int .u64 t, .slice am nm cm, .slice ad nd cd]] w fun e w' => e = .returned (.bool true) ∧ Below w.heap.size w w' := by
  go_enter Try.func7, Try.ntmps7
  go_wp2_with fail
  have S1 : Hid (SBlk (w.alloc (.cells #[.int .u64 i, .int .u64 t, .slice am nm cm, .slice ad nd cd] 27)) w.heap.size i t (.slice am nm cm) (.slice ad nd cd)) := Lib.hid (SBlk.box w i t _ _)
  have A1 : Hid (Below w.heap.size w (w.alloc (.cells #[.int .u64 i, .int .u64 t, .slice am nm cm, .slice ad nd cd] 27))) := Lib.hid ((Below.refl _ _).alloc (Nat.le_refl _) _)
  generalize World.alloc w _ = w1 at *
  refine (light1_yes _ _ _ _ _ _ _ _ w1 h1 h2).mono ?_
  rintro e w2 ⟨rfl, hb2⟩
  have S2 := Lib.hid (S1.out.below hb2)
  have B2 : Hid (Below w.heap.size w w2) := Lib.hid (A1.out.trans (hb2.mono A1.out.size))
  have L2 : w.heap.size < w2.heap.size := S2.out.lt
  clear hb2 h1 h2
  go_wp2_with fail
  generalize hw0 : World.alloc (World.alloc w2 _) _ = w0
  have B0 : Hid (Below w.heap.size w w0) := Lib.hid (by subst hw0; exact (B2.out.alloc (by omega) _).alloc (by simp; omega) _)
  have S0 : Hid (SBlk w0 w.heap.size i t (.slice am nm cm) (.slice ad nd cd)) := Lib.hid (by subst hw0; exact S2.out.below (((Below.refl _ _).alloc (Nat.le_refl _) _).alloc (by simp) _))
  have C0 : Hid (w0.cell? ⟨w2.heap.size, 0, none⟩ = some (.pointer none) ∧ w0.cell? ⟨w2.heap.size + 1, 0, none⟩ = some (.pointer none) ∧ w0.cell? ⟨w2.heap.size + 1, 1, none⟩ = some (.pointer (some ⟨w2.heap.size, 0, none⟩))) := Lib.hid (by
    subst hw0
    exact ⟨by go_cell, by go_cell, by go_cell⟩)
  clear hw0
  go_loopw [24] (fun y wr => ∃ k : Nat, k ≤ 2 ∧ y = .int .i64 k ∧ Below w0.heap.size w0 wr) (fun y _ => 2 - (intOf y).toNat)
  case atStart => exact ⟨0, by omega, rfl, Below.refl _ _⟩
  case round =>
    obtain ⟨k, hk, rfl, hb⟩ := hrel
    have BR := Lib.hid hb
    have SR := Lib.hid (S0.out.below hb)
    have CR : Hid (wr.cell? ⟨w2.heap.size, 0, none⟩ = some (.pointer none) ∧ wr.cell? ⟨w2.heap.size + 1, 0, none⟩ = some (.pointer none) ∧ wr.cell? ⟨w2.heap.size + 1, 1, none⟩ = some (.pointer (some ⟨w2.heap.size, 0, none⟩))) := Lib.hid (by
      obtain ⟨h1, h2, h3⟩ := C0.out
      exact ⟨Below.at hb h1 (World.block_lt_of_cell? _ _ h1), Below.at hb h2 (World.block_lt_of_cell? _ _ h2), Below.at hb h3 (World.block_lt_of_cell? _ _ h3)⟩)
    clear hb
    obtain ⟨x2, x3, x4⟩ := CR.out
    by_cases hk2 : k < 2
    · obtain ⟨p, hp, HP⟩ : ∃ p, wr.cell? ⟨w2.heap.size + 1, k, none⟩ = some (.pointer p) ∧ Hid (NoStore wr p) := by
        rcases (by omega : k = 0 ∨ k = 1) with rfl | rfl
        · exact ⟨none, x3, Lib.hid (.inl rfl)⟩
        · exact ⟨some ⟨w2.heap.size, 0, none⟩, x4, Lib.hid (.inr ⟨_, rfl, x2⟩)⟩
      clear x2 x3 x4
      go_wp2_with fail
      refine (nos_get p wr HP.out).mono ?_
      rintro e u1 ⟨rfl, hb1⟩
      have B1 : Hid (Below w0.heap.size w0 u1) := Lib.hid (BR.out.trans (hb1.mono BR.out.size))
      have P1 := Lib.hid (HP.out.below hb1)
      have SX1 := Lib.hid (SR.out.below hb1)
      clear hb1 hp
      obtain ⟨a0, a1, a2, a3, _, _, _, _⟩ := SX1.out
      have ha := SX1.out.lt
      go_wp2_with fail
      have A2 : Below u1.heap.size u1 (u1.alloc (.cells #[.int .u64 0, .int .u64 0, .slice none 0 0, .slice none 0 0] 27)) := (Below.refl _ _).alloc (Nat.le_refl _) _
      have SG0 := SBlk.new u1
      refine (nos_save p i t am ad nm cm nd cd _ (P1.out.below A2)).mono ?_
      rintro e u3 ⟨rfl, hb3⟩
      have B3 : Hid (Below w0.heap.size w0 u3) := Lib.hid ((B1.out.trans (A2.mono B1.out.size)).trans (hb3.mono (Nat.le_trans B1.out.size A2.size)))
      have SG := Lib.hid (SG0.below hb3)
      clear hb3 A2 SG0 a0 a1 a2 a3 ha
      obtain ⟨a0, a1, a2, a3, _, _, _, _⟩ := SG.out
      go_wp2_with fail
      refine (rsame_any _ _ zeroS zeroS u3 (zeroN_is u3) (zeroN_is u3)).mono ?_
      rintro e u4 ⟨rfl, hb4⟩
      rw [zeroN_same]
      have B4 : Hid (Below w0.heap.size w0 u4) := Lib.hid (B3.out.trans (hb4.mono B3.out.size))
      clear hb4 a0 a1 a2 a3
      go_wp2_with fail
      go_roundw
      case rel => exact ⟨k + 1, by omega, by first | rfl | go_num, B4.out⟩
      all_goals (show 2 - ((k : Int) + 1).toNat < 2 - ((k : Int)).toNat; omega)
    · obtain rfl : k = 2 := by omega
      have BW : Hid (Below w.heap.size w wr) := Lib.hid (B0.out.trans (BR.out.mono B0.out.size))
      clear x2 x3 x4
      go_wp2_with fail
      refine (nos_open none wr (.inl rfl)).mono ?_
      rintro e y1 ⟨rfl, hb1⟩
      have B1 : Hid (Below w.heap.size w y1) := Lib.hid (BW.out.trans (hb1.mono BW.out.size))
      clear hb1
      go_wp2_with fail
      have A2 : Below w.heap.size w (y1.alloc (.cells #[.map none, .int .i64 0, .bool false, .int .i64 0, .pointer none] 58)) := B1.out.alloc B1.out.size _
      have N2 : NoDisk (y1.alloc (.cells #[.map none, .int .i64 0, .bool false, .int .i64 0, .pointer none] 58)) (some ⟨y1.heap.size, 0, none⟩) := .inr ⟨_, rfl, by go_cell⟩
      refine (nos_open _ _ N2).mono ?_
      rintro e y2 ⟨rfl, hb2⟩
      have B2 : Hid (Below w.heap.size w y2) := Lib.hid (A2.trans (hb2.mono A2.size))
      clear hb2 A2 N2
      go_wp2_with fail
      refine (dnew 100 y2 (by decide) (by decide)).mono ?_
      rintro e y3 ⟨db, mb, tb, rfl, hd3, hb3, h1, h2, h3⟩
      have D3 : Hid (DiskIs y3 db mb tb (e100 false)) := Lib.hid hd3
      have HO : Hid (∀ k, Own3 db mb tb k → w.heap.size ≤ k) := Lib.hid (by
        have := B2.out.size
        rintro k (rfl | rfl | rfl) <;> omega)
      have B3 : Hid (Below w.heap.size w y3) := Lib.hid (B2.out.trans (hb3.mono B2.out.size))
      clear hd3 hb3 h1 h2 h3
      go_wp2_with fail
      refine (dcrash_any db mb tb _ _ [] y3 D3.out e100_good (TearsIs.nil _) (.inl rfl)).mono ?_
      rintro e y4 ⟨rfl, hd4, hk4⟩
      have D4 : Hid (DiskIs y4 db mb tb (e100 true)) := Lib.hid hd4
      have B4 : Hid (Below w.heap.size w y4) := Lib.hid (B3.out.trans (hk4.below B3.out.size HO.out))
      clear hd4 hk4
      go_wp2_with fail
      refine (sopen_err db mb tb _ y4 D4.out e100_good2 (by rw [e100_gone]; decide)).mono ?_
      rintro e y5 ⟨rfl, -, hk5⟩
      rw [e100_gone]
      have B5 : Hid (Below w.heap.size w y5) := Lib.hid (B4.out.trans (hk5.below B4.out.size HO.out))
      clear hk5
      go_wp2_with fail
      refine (lives_any _).mono ?_
      rintro e y6 ⟨rfl, hb6⟩
      have B6 : Hid (Below w.heap.size w y6) := Lib.hid (B5.out.trans (hb6.mono B5.out.size))
      clear hb6
      go_wp2_with fail
      go_ret
      exact ⟨rfl, B6.out⟩

theorem snobody_any (W : World) (v : Value) (h : SnapArg W v) : Calls Try.prog 7 #[v] W fun e w' => e = .returned (.bool true) ∧ Below W.heap.size W w' := by
  obtain ⟨i, t, am, nm, cm, ad, nd, cd, rfl, _⟩ := h
  by_cases hl : nm ≤ 30 ∧ nd ≤ 33000
  · exact snobody_light i t am ad nm cm nd cd W hl.1 hl.2
  · exact snobody_heavy i t am ad nm cm nd cd W hl
end Go.Proofs.Ytofhccpagnkalaa

/- THE STATEMENT SnapshotNobody: a store that is nil, or that no call made, takes nothing; of no disk none is opened. For every input; no conditions. -/
namespace Go.Proofs.Ytofhccpagnkalaa
open Go.ChangeShapes Go.WideShapes Go.ChangeAt Go.RowKit Go.Deep Go.Proofs.Own


set_option maxRecDepth 100000 in
theorem snobody_law_lifted (os : Os) (started : os.Started) (H : Type) (enc : TypeId × Value → H) :
    ReturnsInHanded {} Try.checked os 7 .any (Rows.snapshotNobodySpec.pre6 enc Try.prog Try.f7 Rows.snapshotNobodyRow.domain false) (Rows.snapshotNobodySpec.post enc Try.prog Try.f7 false true false false) := by
  refine returnsInHanded_of_change (C := Try.checked) own started (by kernel_rfl) Try.func7
    (ChangeSpec.witness6 (enc := enc) (C := Try.checked) false ⟨#[], #[.agg #[.int .u64 0, .int .u64 0, .slice none 0 0, .slice none 0 0]], []⟩ 8 (by kernel_rfl) (by kernel_rfl) (by kernel_rfl) (by kernel_rfl)) ?_
  intro W base args ds gs before hval0 hW hcnd _
  have hval : ∀ (j : Nat) t v, Try.f7.params[j]? = some t → args[j]? = some v → Value.okWide Try.prog W .any base t v := hval0
  have hW' := hW
  obtain ⟨p, q, hA0, hV, _, hfz, hnd⟩ := hW
  have hA : DataW.TrodAll enc Try.prog W 0 (fun _ => true) true Try.f7.params.toList args.toList ds p := hA0
  rw [Try.params7] at hA hval
  obtain ⟨v0, d0, rfl, rfl, h0⟩ := trodAll_one hA
  have a0 := open_snap (hval 0 27 v0 rfl rfl) h0
  refine (snobody_any W v0 a0).mono fun e W' ⟨he, hb⟩ => ?_
  exact ⟨_, he, law_post laid (by kernel_rfl) ⟨4, rfl, Try.underlying4⟩ rfl (fun ds hds => by
    match ds, hds with
    | [x0], _ => rfl) hW' hb⟩

theorem snobody_law_holds : Rows.SnapshotNobodySaid :=
  OpenClaim.holds_of_wide 7 Try.f7 rfl rfl rfl rfl rfl rfl rfl ⟨rfl, rfl, rfl, rfl, rfl⟩ rfl rfl rfl rfl rfl (by kernel_rfl) Try.func7 (by kernel_rfl)
    (of_decide_eq_true (by kernel_rfl)) (by unfold Func.isWrapper; first | (rw [if_pos (by decide +kernel)]; kernel_rfl) | (rw [if_neg (by decide +kernel)]; exact ⟨rfl, rfl⟩))
    (fun os started H enc _ => snobody_law_lifted os started H enc)
#print axioms snobody_law_holds
end Go.Proofs.Ytofhccpagnkalaa
