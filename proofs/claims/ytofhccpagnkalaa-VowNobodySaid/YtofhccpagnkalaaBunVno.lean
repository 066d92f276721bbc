/- Several texts in one: Nov, Vno, VnoH. What each proves stands ahead of it. -/
import Derived.Test.YtofhccpagnkalaaNod
import Derived.Test.YtofhccpagnkalaaBunVa
import Derived.Test.YtofhccpagnkalaaBunVd
/- The vow's Open of a disk that is none; no conditions. -/
namespace Go.Proofs.Ytofhccpagnkalaa
open Go.RowKit Go.Maps Go.Proofs.Own

set_option maxHeartbeats 1000000 in
theorem nod_gone (p : Option Addr) (n : ByteArray) (w : World) (h : NoDisk w p) : Calls Try.prog 63 #[.pointer p, .string n] w fun e w' => e = .returned (.int .i64 1) ∧ Below w.heap.size w w' := by
  have H := Lib.hid h
  clear h
  go_enter Try.func63, Try.ntmps63
  go_wp2_with fail
  refine (nod_remove p n _ H.out).mono ?_
  rintro e w1 ⟨rfl, hb1⟩
  have B1 := Lib.hid hb1
  clear hb1
  go_wp2_with fail
  go_ret
  exact ⟨rfl, B1.out⟩
set_option maxHeartbeats 1000000 in
theorem nod_vopen (p : Option Addr) (w : World) (h : NoDisk w p) : Calls Try.prog 29 #[.pointer p] w fun e w' => e = .returned (.tuple #[.pointer none, .int .i64 1]) ∧ Below w.heap.size w w' := by
  have H := Lib.hid h
  clear h
  go_enter Try.func29, Try.ntmps29
  go_wp2_with fail
  refine (nod_gone p _ _ H.out).mono ?_
  rintro e w1 ⟨rfl, hb1⟩
  have B1 := Lib.hid hb1
  clear hb1
  go_wp2_with fail
  go_ret2
  exact ⟨rfl, B1.out⟩
end Go.Proofs.Ytofhccpagnkalaa

/- The law VowNobody, walked; no conditions. -/
namespace Go.Proofs.Ytofhccpagnkalaa
open Go.RowKit Go.Maps Go.Proofs.Own Go.Shelf

def d100 (b : Bool) : DiskS := ⟨100, [], b, -1, 0⟩
theorem d100_good : DGood (d100 false) := ⟨⟨by decide, by decide, by decide, by decide, by decide, by decide, by decide, fun f h => by cases h⟩, by decide, by decide⟩
theorem d100_good2 : DGood (d100 true) := ⟨⟨by decide, by decide, by decide, by decide, by decide, by decide, by decide, fun f h => by cases h⟩, by decide, by decide⟩
theorem d100_open : vopenD (d100 true) = (d100 true, 50) := rfl

set_option maxHeartbeats 1600000 in
set_option maxRecDepth 20000 in
theorem vnobody_any (t v : Int) (w : World) : Calls Try.prog 6 #[.agg #[.int .u64 t, .int .i64 v]] w fun e w' => e = .returned (.bool true) ∧ Below w.heap.size w w' := by
  go_enter Try.func6, Try.ntmps6
  go_wp2_with fail
  generalize hw0 : World.alloc (World.alloc (World.alloc w _) _) _ = w0
  have B0 : Hid (Below w.heap.size w w0) := Lib.hid (by subst hw0; exact (((Below.refl _ _).alloc (Nat.le_refl _) _).alloc (by simp) _).alloc (by simp; omega) _)
  have C0 : Hid ((w0.cell? ⟨w.heap.size, 0, none⟩ = some (.int .u64 t) ∧ w0.cell? ⟨w.heap.size, 1, none⟩ = some (.int .i64 v)) ∧ w0.cell? ⟨w.heap.size + 1, 0, none⟩ = some (.pointer none) ∧ w0.cell? ⟨w.heap.size + 1 + 1, 0, none⟩ = some (.pointer none) ∧ w0.cell? ⟨w.heap.size + 1 + 1, 1, none⟩ = some (.pointer (some ⟨w.heap.size + 1, 0, none⟩))) := Lib.hid (by
    subst hw0
    exact ⟨⟨by go_cell, by go_cell⟩, by go_cell, by go_cell, by go_cell⟩)
  have L0 : Hid (w0.heap.size = w.heap.size + 1 + 1 + 1) := Lib.hid (by subst hw0; simp)
  clear hw0
  go_loopw [18] (fun i wr => ∃ k : Nat, k ≤ 2 ∧ i = .int .i64 k ∧ Below w0.heap.size w0 wr) (fun i _ => 2 - (intOf i).toNat)
  case atStart => exact ⟨0, by omega, rfl, Below.refl _ _⟩
  case round =>
    obtain ⟨k, hk, rfl, hb⟩ := hrel
    have BR := Lib.hid hb
    have CR : Hid ((wr.cell? ⟨w.heap.size, 0, none⟩ = some (.int .u64 t) ∧ wr.cell? ⟨w.heap.size, 1, none⟩ = some (.int .i64 v)) ∧ wr.cell? ⟨w.heap.size + 1, 0, none⟩ = some (.pointer none) ∧ wr.cell? ⟨w.heap.size + 1 + 1, 0, none⟩ = some (.pointer none) ∧ wr.cell? ⟨w.heap.size + 1 + 1, 1, none⟩ = some (.pointer (some ⟨w.heap.size + 1, 0, none⟩))) := Lib.hid (by
      obtain ⟨⟨h1, h2⟩, h3, h4, h5⟩ := C0.out
      exact ⟨⟨Below.at hb h1 (World.block_lt_of_cell? _ _ h1), Below.at hb h2 (World.block_lt_of_cell? _ _ h2)⟩, Below.at hb h3 (World.block_lt_of_cell? _ _ h3), Below.at hb h4 (World.block_lt_of_cell? _ _ h4), Below.at hb h5 (World.block_lt_of_cell? _ _ h5)⟩)
    clear hb
    obtain ⟨⟨x0, x1⟩, x2, x3, x4⟩ := CR.out
    by_cases h0 : k = 0
    · subst h0
      go_wp2_with fail
      refine (vkeep_no none t v wr (fun w1 _ => vnone_nil w1)).mono ?_
      rintro e u1 ⟨rfl, hb1⟩
      have B1 : Hid (Below w0.heap.size w0 u1) := Lib.hid (BR.out.trans (hb1.mono BR.out.size))
      clear hb1 x0 x1 x2 x3 x4
      go_wp2_with fail
      refine (vstate_no none u1 (fun w1 _ => vnone_nil w1)).mono ?_
      rintro e u2 ⟨rfl, hb2⟩
      have B2 : Hid (Below w0.heap.size w0 u2) := Lib.hid (B1.out.trans (hb2.mono B1.out.size))
      clear hb2
      go_wp2_with fail
      go_roundw
      case rel => exact ⟨1, by omega, by first | rfl | go_num, B2.out⟩
      case measure => simp [intOf]
    · by_cases h1 : k = 1
      · subst h1
        have X2 := Lib.hid x2
        have X2L := Lib.hid (World.block_lt_of_cell? _ _ x2)
        go_wp2_with fail
        refine (vkeep_no (some ⟨w.heap.size + 1, 0, none⟩) t v wr (fun w1 hb1 => vnone_no _ w1 (Below.at hb1 X2.out X2L.out))).mono ?_
        rintro e u1 ⟨rfl, hb1⟩
        have B1 : Hid (Below w0.heap.size w0 u1) := Lib.hid (BR.out.trans (hb1.mono BR.out.size))
        have Y2 : Hid (u1.cell? ⟨w.heap.size + 1, 0, none⟩ = some (.pointer none)) := Lib.hid (Below.at hb1 X2.out X2L.out)
        clear hb1 x0 x1 x2 x3 x4
        go_wp2_with fail
        refine (vstate_no (some ⟨w.heap.size + 1, 0, none⟩) u1 (fun w1 hb1 => vnone_no _ w1 (Below.at hb1 Y2.out (World.block_lt_of_cell? _ _ Y2.out)))).mono ?_
        rintro e u2 ⟨rfl, hb2⟩
        have B2 : Hid (Below w0.heap.size w0 u2) := Lib.hid (B1.out.trans (hb2.mono B1.out.size))
        clear hb2
        go_wp2_with fail
        go_roundw
        case rel => exact ⟨2, by omega, by first | rfl | go_num, B2.out⟩
        case measure => simp [intOf]
      · obtain rfl : k = 2 := by omega
        have BW : Hid (Below w.heap.size w wr) := Lib.hid (B0.out.trans (BR.out.mono B0.out.size))
        clear x0 x1 x2 x3 x4
        go_wp2_with fail
        refine (nod_vopen none wr (.inl rfl)).mono ?_
        rintro e y1 ⟨rfl, hb1⟩
        have B1 : Hid (Below w.heap.size w y1) := Lib.hid (BW.out.trans (hb1.mono BW.out.size))
        clear hb1
        go_wp2_with fail
        have A2 : Below w.heap.size w (y1.alloc (.cells #[.map none, .int .i64 0, .bool false, .int .i64 0, .pointer none] 58)) := B1.out.alloc B1.out.size _
        have N2 : NoDisk (y1.alloc (.cells #[.map none, .int .i64 0, .bool false, .int .i64 0, .pointer none] 58)) (some ⟨y1.heap.size, 0, none⟩) := .inr ⟨_, rfl, by go_cell⟩
        refine (nod_vopen _ _ N2).mono ?_
        rintro e y2 ⟨rfl, hb2⟩
        have B2 : Hid (Below w.heap.size w y2) := Lib.hid (A2.trans (hb2.mono A2.size))
        clear hb2 A2 N2
        go_wp2_with fail
        refine (dnew 100 y2 (by decide) (by decide)).mono ?_
        rintro e y3 ⟨db, mb, tb, rfl, hd3, hb3, h1, h2, h3⟩
        have D3 : Hid (DiskIs y3 db mb tb (d100 false)) := Lib.hid hd3
        have HO : Hid (∀ k, Own3 db mb tb k → w.heap.size ≤ k) := Lib.hid (by
          have := B2.out.size
          rintro k (rfl | rfl | rfl) <;> omega)
        have B3 : Hid (Below w.heap.size w y3) := Lib.hid (B2.out.trans (hb3.mono B2.out.size))
        clear hd3 hb3 h1 h2 h3
        go_wp2_with fail
        refine (dcrash_any db mb tb _ _ [] y3 D3.out d100_good (TearsIs.nil _) (.inl rfl)).mono ?_
        rintro e y4 ⟨rfl, hd4, hk4⟩
        have D4 : Hid (DiskIs y4 db mb tb (d100 true)) := Lib.hid hd4
        have B4 : Hid (Below w.heap.size w y4) := Lib.hid (B3.out.trans (hk4.below B3.out.size HO.out))
        clear hd4 hk4
        go_wp2_with fail
        refine (vopen_any db mb tb _ y4 D4.out d100_good2 (by decide)).mono ?_
        rintro e y5 ⟨hno, -, -, hk5⟩
        rw [d100_open] at hno
        obtain rfl := hno (by decide)
        have B5 : Hid (Below w.heap.size w y5) := Lib.hid (B4.out.trans (hk5.below B4.out.size HO.out))
        clear hno hk5
        go_wp2_with fail
        refine (vlives_any _).mono ?_
        rintro e y6 ⟨rfl, hb6⟩
        have B6 : Hid (Below w.heap.size w y6) := Lib.hid (B5.out.trans (hb6.mono B5.out.size))
        clear hb6
        go_wp2_with fail
        go_ret
        exact ⟨rfl, B6.out⟩
end Go.Proofs.Ytofhccpagnkalaa

/- THE STATEMENT VowNobody: a book that is nil, or that no call made, takes nothing; of no disk none is opened. For every input; no conditions. -/
namespace Go.Proofs.Ytofhccpagnkalaa
open Go.ChangeShapes Go.WideShapes Go.ChangeAt Go.RowKit Go.Deep Go.Proofs.Own


set_option maxRecDepth 100000 in
theorem vnobody_law_lifted (os : Os) (started : os.Started) (H : Type) (enc : TypeId × Value → H) :
    ReturnsInHanded {} Try.checked os 6 .any (Rows.vowNobodySpec.pre6 enc Try.prog Try.f6 Rows.vowNobodyRow.domain false) (Rows.vowNobodySpec.post enc Try.prog Try.f6 false true false false) := by
  refine returnsInHanded_of_change (C := Try.checked) own started (by kernel_rfl) Try.func6
    (ChangeSpec.witness6 (enc := enc) (C := Try.checked) false ⟨#[], #[.agg #[.int .u64 0, .int .i64 0]], []⟩ 8 (by kernel_rfl) (by kernel_rfl) (by kernel_rfl) (by kernel_rfl)) ?_
  intro W base args ds gs before hval0 hW hcnd _
  have hval : ∀ (j : Nat) t v, Try.f6.params[j]? = some t → args[j]? = some v → Value.okWide Try.prog W .any base t v := hval0
  have hW' := hW
  obtain ⟨p, q, hA0, hV, _, hfz, hnd⟩ := hW
  have hA : DataW.TrodAll enc Try.prog W 0 (fun _ => true) true Try.f6.params.toList args.toList ds p := hA0
  rw [Try.params6] at hA hval
  obtain ⟨v0, d0, rfl, rfl, h0⟩ := trodAll_one hA
  obtain ⟨t0, s0, rfl, n0⟩ := open_state (hval 0 40 v0 rfl rfl) h0
  refine (vnobody_any t0 s0 W).mono fun e W' ⟨he, hb⟩ => ?_
  exact ⟨_, he, law_post laid (by kernel_rfl) ⟨4, rfl, Try.underlying4⟩ rfl (fun ds hds => by
    match ds, hds with
    | [x0], _ => rfl) hW' hb⟩

theorem vnobody_law_holds : Rows.VowNobodySaid :=
  OpenClaim.holds_of_wide 6 Try.f6 rfl rfl rfl rfl rfl rfl rfl ⟨rfl, rfl, rfl, rfl, rfl⟩ rfl rfl rfl rfl rfl (by kernel_rfl) Try.func6 (by kernel_rfl)
    (of_decide_eq_true (by kernel_rfl)) (by unfold Func.isWrapper; first | (rw [if_pos (by decide +kernel)]; kernel_rfl) | (rw [if_neg (by decide +kernel)]; exact ⟨rfl, rfl⟩))
    (fun os started H enc _ => vnobody_law_lifted os started H enc)
#print axioms vnobody_law_holds
end Go.Proofs.Ytofhccpagnkalaa
