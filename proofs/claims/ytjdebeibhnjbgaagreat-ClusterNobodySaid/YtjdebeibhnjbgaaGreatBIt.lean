/- Several texts in one: Iter, IterI. What each proves stands ahead of it. -/
import Derived.Shelf.SlGeneric
import Derived.Shelf.SlIter.Nil
import Derived.Shelf.SortM.Plain
import Derived.Shelf.SortM.SortNone
import Derived.Ground.GgzProg
import Derived.Ground.SlgmProg
import Derived.Test.YtjdebeibhnjbgaaGreatProg
import Derived.Shelf.SlIterI.Nil
/-
  DERIVED: THE SHELF's CONTRACTS AT THIS DUMP, IN PLAIN WORDS (tools/lay-plain.mjs out of 'YtjdebeibhnjbgaaGreatIterS.lean', which tools/lay-shelf.mjs wrote): THE SAME DECLARATIONS UNDER THE SAME NAMES: 'import', 'namespace', 'open', 'def', 'theorem' AND NOTHING ELSE: no command of the shelf's: FOR A HAND-IN. Each laying: the table of numbers ('.._ren') and one theorem, a field a fact of the dump's own or the kernel's comparison; each contract: ONE APPLICATION.
-/
namespace Go.Proofs
open Go.Shelf
def Tryz.keys156_ren : Go.Shelf.Ren := ⟨fun | 7 => 156 | 10 => 248 | n => n, fun | 23 => 140 | 26 => 9 | 3 => 198 | 28 => 293 | 0 => 0 | 27 => 292 | 33 => 412 | 4 => 4 | n => n, fun | n => n⟩
theorem Tryz.keys156 : Go.Proofs.SlLaysZ.n7 Tryz.prog Tryz.keys156_ren := {
  mixed := by kernel_rfl
  f7 := ⟨Tryz.f156.name, by decide, Tryz.func156.trans (congrArg some (by kernel_rfl))⟩
  f10 := ⟨Tryz.f248.name, by decide, Tryz.func248.trans (congrArg some (by kernel_rfl))⟩
  t0 := Tryz.underlying0
  a0 := Tryz.isAgg0
  z0 := Tryz.sizeOf0
  v0 := Tryz.zeroValue0
  t4 := Tryz.underlying4
  a4 := Tryz.isAgg4
  z4 := Tryz.sizeOf4
  v4 := Tryz.zeroValue4
  t23 := Tryz.underlying140
  a23 := Tryz.isAgg140
  z23 := Tryz.sizeOf140
  v23 := Tryz.zeroValue140
  t26 := Tryz.underlying9
  a26 := Tryz.isAgg9
  z26 := Tryz.sizeOf9
  v26 := Tryz.zeroValue9
  t27 := Tryz.underlying292
  a27 := Tryz.isAgg292
  z27 := Tryz.sizeOf292
  v27 := Tryz.zeroValue292
  t28 := Tryz.underlying293
  a28 := Tryz.isAgg293
  z28 := Tryz.sizeOf293
  v28 := Tryz.zeroValue293
  t33 := Tryz.underlying412
  a33 := Tryz.isAgg412
  z33 := Tryz.sizeOf412
  v33 := Tryz.zeroValue412 }
def Tryz.sorted155_ren : Go.Shelf.Ren := ⟨fun | 6 => 155 | 8 => 246 | 9 => 247 | 11 => 321 | 13 => 323 | 12 => 322 | 23 => 420 | 24 => 421 | 14 => 411 | 15 => 412 | 16 => 413 | 17 => 414 | 18 => 415 | 19 => 416 | 20 => 417 | 21 => 418 | 22 => 419 | 25 => 508 | 26 => 509 | 27 => 510 | 28 => 511 | 29 => 512 | 30 => 513 | 31 => 578 | n => n, fun | 26 => 9 | 28 => 293 | 24 => 195 | 0 => 0 | 3 => 3 | 37 => 496 | 48 => 191 | 50 => 22 | 4 => 4 | 40 => 582 | 39 => 581 | 45 => 587 | 5 => 5 | 9 => 9 | 51 => 685 | 55 => 688 | 57 => 749 | 58 => 638 | 33 => 412 | n => n, fun | n => n⟩
theorem Tryz.sorted155 : Go.Proofs.SlLaysZ.n6 Tryz.prog Tryz.sorted155_ren := {
  mixed := by kernel_rfl
  f6 := ⟨Tryz.f155.name, by decide, Tryz.func155.trans (congrArg some (by kernel_rfl))⟩
  f8 := ⟨Tryz.f246.name, by decide, Tryz.func246.trans (congrArg some (by kernel_rfl))⟩
  f11 := ⟨Tryz.f321.name, by decide, Tryz.func321.trans (congrArg some (by kernel_rfl))⟩
  t0 := Tryz.underlying0
  a0 := Tryz.isAgg0
  z0 := Tryz.sizeOf0
  v0 := Tryz.zeroValue0
  t24 := Tryz.underlying195
  a24 := Tryz.isAgg195
  z24 := Tryz.sizeOf195
  v24 := Tryz.zeroValue195
  t26 := Tryz.underlying9
  a26 := Tryz.isAgg9
  z26 := Tryz.sizeOf9
  v26 := Tryz.zeroValue9
  t28 := Tryz.underlying293
  a28 := Tryz.isAgg293
  z28 := Tryz.sizeOf293
  v28 := Tryz.zeroValue293
  i26 := by kernel_rfl }
def Tryz.sort247_ren : Go.Shelf.Ren := ⟨fun | 6 => 247 | 8 => 323 | 9 => 322 | 19 => 420 | 20 => 421 | 21 => 411 | 22 => 412 | 23 => 413 | 24 => 414 | 25 => 415 | 26 => 416 | 27 => 417 | 28 => 418 | 29 => 419 | 36 => 508 | 31 => 509 | 32 => 510 | 37 => 511 | 38 => 512 | 39 => 513 | 41 => 578 | n => n, fun | 27 => 195 | 29 => 9 | 3 => 3 | 32 => 496 | 26 => 195 | 0 => 0 | 44 => 191 | 46 => 22 | 4 => 4 | 36 => 582 | 35 => 581 | 41 => 587 | 5 => 5 | 9 => 9 | 53 => 685 | 57 => 688 | 63 => 749 | 64 => 638 | n => n, fun | n => n⟩
theorem Tryz.sort247 : Go.Proofs.SlLaysM.n6 Tryz.prog Tryz.sort247_ren := {
  mixed := by kernel_rfl
  f6 := ⟨Tryz.f247.name, by decide, Tryz.func247.trans (congrArg some (by kernel_rfl))⟩
  f8 := Tryz.func323.trans (congrArg some (by kernel_rfl))
  f9 := ⟨Tryz.f322.name, by decide, Tryz.func322.trans (congrArg some (by kernel_rfl))⟩
  f19 := Tryz.func420.trans (congrArg some (by kernel_rfl))
  f20 := Tryz.func421.trans (congrArg some (by kernel_rfl))
  f21 := ⟨Tryz.f411.name, by decide, Tryz.func411.trans (congrArg some (by kernel_rfl))⟩
  f22 := ⟨Tryz.f412.name, by decide, Tryz.func412.trans (congrArg some (by kernel_rfl))⟩
  f23 := ⟨Tryz.f413.name, by decide, Tryz.func413.trans (congrArg some (by kernel_rfl))⟩
  f24 := ⟨Tryz.f414.name, by decide, Tryz.func414.trans (congrArg some (by kernel_rfl))⟩
  f25 := ⟨Tryz.f415.name, by decide, Tryz.func415.trans (congrArg some (by kernel_rfl))⟩
  f26 := ⟨Tryz.f416.name, by decide, Tryz.func416.trans (congrArg some (by kernel_rfl))⟩
  f27 := ⟨Tryz.f417.name, by decide, Tryz.func417.trans (congrArg some (by kernel_rfl))⟩
  f28 := ⟨Tryz.f418.name, by decide, Tryz.func418.trans (congrArg some (by kernel_rfl))⟩
  f29 := ⟨Tryz.f419.name, by decide, Tryz.func419.trans (congrArg some (by kernel_rfl))⟩
  f31 := Tryz.func509.trans (congrArg some (by kernel_rfl))
  f32 := Tryz.func510.trans (congrArg some (by kernel_rfl))
  f36 := ⟨Tryz.f508.name, by decide, Tryz.func508.trans (congrArg some (by kernel_rfl))⟩
  f37 := ⟨Tryz.f511.name, by decide, Tryz.func511.trans (congrArg some (by kernel_rfl))⟩
  f38 := ⟨Tryz.f512.name, by decide, Tryz.func512.trans (congrArg some (by kernel_rfl))⟩
  f39 := ⟨Tryz.f513.name, by decide, Tryz.func513.trans (congrArg some (by kernel_rfl))⟩
  f41 := ⟨Tryz.f578.name, by decide, Tryz.func578.trans (congrArg some (by kernel_rfl))⟩
  t0 := Tryz.underlying0
  a0 := Tryz.isAgg0
  z0 := Tryz.sizeOf0
  v0 := Tryz.zeroValue0
  t3 := Tryz.underlying3
  a3 := Tryz.isAgg3
  z3 := Tryz.sizeOf3
  v3 := Tryz.zeroValue3
  t4 := Tryz.underlying4
  a4 := Tryz.isAgg4
  z4 := Tryz.sizeOf4
  v4 := Tryz.zeroValue4
  t5 := Tryz.underlying5
  a5 := Tryz.isAgg5
  z5 := Tryz.sizeOf5
  v5 := Tryz.zeroValue5
  t9 := Tryz.underlying9
  a9 := Tryz.isAgg9
  z9 := Tryz.sizeOf9
  v9 := Tryz.zeroValue9
  t26 := Tryz.underlying195
  a26 := Tryz.isAgg195
  z26 := Tryz.sizeOf195
  v26 := Tryz.zeroValue195
  t27 := Tryz.underlying195
  a27 := Tryz.isAgg195
  z27 := Tryz.sizeOf195
  v27 := Tryz.zeroValue195
  t29 := Tryz.underlying9
  a29 := Tryz.isAgg9
  z29 := Tryz.sizeOf9
  v29 := Tryz.zeroValue9
  t32 := Tryz.underlying496
  a32 := Tryz.isAgg496
  z32 := Tryz.sizeOf496
  v32 := Tryz.zeroValue496
  t35 := Tryz.underlying581
  a35 := Tryz.isAgg581
  z35 := Tryz.sizeOf581
  v35 := Tryz.zeroValue581
  t36 := Tryz.underlying582
  a36 := Tryz.isAgg582
  z36 := Tryz.sizeOf582
  v36 := Tryz.zeroValue582
  t41 := Tryz.underlying587
  a41 := Tryz.isAgg587
  z41 := Tryz.sizeOf587
  v41 := Tryz.zeroValue587
  t44 := Tryz.underlying191
  a44 := Tryz.isAgg191
  z44 := Tryz.sizeOf191
  v44 := Tryz.zeroValue191
  t46 := Tryz.underlying22
  a46 := Tryz.isAgg22
  z46 := Tryz.sizeOf22
  v46 := Tryz.zeroValue22
  t53 := Tryz.underlying685
  a53 := Tryz.isAgg685
  z53 := Tryz.sizeOf685
  v53 := Tryz.zeroValue685
  t57 := Tryz.underlying688
  a57 := Tryz.isAgg688
  z57 := Tryz.sizeOf688
  v57 := Tryz.zeroValue688
  t63 := Tryz.underlying749
  a63 := Tryz.isAgg749
  z63 := Tryz.sizeOf749
  v63 := Tryz.zeroValue749
  t64 := Tryz.underlying638
  a64 := Tryz.isAgg638
  z64 := Tryz.sizeOf638
  v64 := Tryz.zeroValue638 }
set_option maxHeartbeats 1000000 in
open Go.RowKit Go.Maps Go.Sort in
theorem Tryz.sorts155 (m : Nat) : AnyZ.SortsIn Tryz.prog Tryz.sorted155_ren Fence.wide m :=
  ⟨fun blk off cap ss W hH hblk hsz => callsIn_wide.2 (AnyM.slices_Sort_string Tryz.sort247 blk off cap ss W hH hblk hsz),
   fun p cap W => callsIn_wide.2 (AnyM.slices_Sort_string_none Tryz.sort247 p cap W)⟩
set_option maxHeartbeats 1000000 in
open Go.RowKit Go.Maps Go.Sort in
theorem Tryz.maps_Keys_156 (mb : Option Nat) (W : World) : CallsIn Fence.wide 5 Tryz.prog 156 #[.map mb] W fun e w' => e = .returned (.func (.func 248) #[] #[.pointer (some ⟨W.heap.size, 0, none⟩)]) ∧ w' = W.alloc (.cells #[.map mb] 140) :=
  AnyZ.keys_in Tryz.keys156 Fence.wide 5 trivial rfl mb W
set_option maxHeartbeats 1000000 in
open Go.RowKit Go.Maps Go.Sort in
theorem Tryz.slices_Sorted_keys_155_156 {H : Type} (b nn : Nat) (D0 : DataW H) (R : Value → Option (DataW H × List MemPlace)) (w : World) (hown : w.ownsMap Tryz.prog 9 R b nn D0) (hmax : Maps.size D0 ≤ maxLen) (hbytes : Maps.size D0 * 16 ≤ 140737488355328) :
    CallsIn Fence.wide 5 Tryz.prog 155 #[.func (.func 248) #[] #[.pointer (some ⟨w.heap.size, 0, none⟩)]] (w.alloc (.cells #[.map (some b)] 140)) fun e w' => ∃ (v : Value) (ss : List (List UInt8)), e = .returned v ∧ ss.Perm (strKeys D0) ∧
      w'.ownsRow (w.alloc (.cells #[.map (some b)] 140)).heap.size 9 1 v ss.length ((ss.mergeSort (fun x y => decide (x ≤ y))).map encStr) ∧ (v = .slice none 0 0 ↔ ss = []) ∧ Below (w.alloc (.cells #[.map (some b)] 140)).heap.size (w.alloc (.cells #[.map (some b)] 140)) w' := by
  have hbl := hown.lt
  have hseq : SeqGives Fence.wide 2 Tryz.prog 248 #[.pointer (some ⟨w.heap.size, 0, none⟩)] encStr (fun ss => ss.Perm (strKeys D0)) (Maps.size D0) (w.alloc (.cells #[.map (some b)] 140)) :=
    AnyZ.keys_gives (ρ := Tryz.keys156_ren) { Tryz.keys156 with } Fence.wide _ trivial rfl (by omega) w.heap.size b nn D0 _ (by simp) (by simp) (by
      obtain ⟨es, clock, hb, Ft, hs, hD⟩ := hown
      exact ⟨es, clock, (Below.heap_alloc _ _ b hbl).trans hb, Ft, hs, hD⟩)
  exact AnyZ.sorted_in Tryz.sorted155 Fence.wide 5 trivial trivial trivial trivial rfl (by omega) (Tryz.sorts155 _) (enters_of Tryz.func247 (by kernel_rfl) rfl) 248 #[.pointer (some ⟨w.heap.size, 0, none⟩)] trivial (enters_of Tryz.func248 (by kernel_rfl) rfl) _ _ hmax hbytes _ hseq
set_option maxHeartbeats 1000000 in
open Go.RowKit Go.Maps Go.Sort in
theorem Tryz.slices_Sorted_keys_nil_155_156 (w : World) :
    CallsIn Fence.wide 5 Tryz.prog 155 #[.func (.func 248) #[] #[.pointer (some ⟨w.heap.size, 0, none⟩)]] (w.alloc (.cells #[.map none] 140)) fun e w' => ∃ (v : Value) (ss : List (List UInt8)), e = .returned v ∧ ss = [] ∧
      w'.ownsRow (w.alloc (.cells #[.map none] 140)).heap.size 9 1 v ss.length ((ss.mergeSort (fun x y => decide (x ≤ y))).map encStr) ∧ (v = .slice none 0 0 ↔ ss = []) ∧ Below (w.alloc (.cells #[.map none] 140)).heap.size (w.alloc (.cells #[.map none] 140)) w' := by
  have hseq : SeqGives Fence.wide 2 Tryz.prog 248 #[.pointer (some ⟨w.heap.size, 0, none⟩)] encStr (fun ss : List (List UInt8) => ss = []) 0 (w.alloc (.cells #[.map none] 140)) :=
    AnyZ.keys_gives_nil (ρ := Tryz.keys156_ren) { Tryz.keys156 with } Fence.wide _ trivial rfl w.heap.size _ (by simp) (by simp)
  exact AnyZ.sorted_in Tryz.sorted155 Fence.wide 5 trivial trivial trivial trivial rfl (by omega) (Tryz.sorts155 _) (enters_of Tryz.func247 (by kernel_rfl) rfl) 248 #[.pointer (some ⟨w.heap.size, 0, none⟩)] trivial (enters_of Tryz.func248 (by kernel_rfl) rfl) _ 0 (Nat.zero_le _) (by omega) _ hseq
end Go.Proofs

/-
  DERIVED: THE SHELF's CONTRACTS AT THIS DUMP, IN PLAIN WORDS (tools/lay-plain.mjs out of 'YtjdebeibhnjbgaaGreatIterIS.lean', which tools/lay-shelf.mjs wrote): THE SAME DECLARATIONS UNDER THE SAME NAMES: 'import', 'namespace', 'open', 'def', 'theorem' AND NOTHING ELSE: no command of the shelf's: FOR A HAND-IN. Each laying: the table of numbers ('.._ren') and one theorem, a field a fact of the dump's own or the kernel's comparison; each contract: ONE APPLICATION.
-/
namespace Go.Proofs
open Go.Shelf
def Tryz.keys404_ren : Go.Shelf.Ren := ⟨fun | 7 => 404 | 10 => 503 | n => n, fun | 23 => 415 | 26 => 3 | 3 => 407 | 28 => 572 | 0 => 0 | 27 => 571 | 33 => 69 | 4 => 4 | n => n, fun | n => n⟩
theorem Tryz.keys404 : Go.Proofs.SlLaysZI.n7 Tryz.prog Tryz.keys404_ren := {
  mixed := by kernel_rfl
  f7 := ⟨Tryz.f404.name, by decide, Tryz.func404.trans (congrArg some (by kernel_rfl))⟩
  f10 := ⟨Tryz.f503.name, by decide, Tryz.func503.trans (congrArg some (by kernel_rfl))⟩
  t0 := Tryz.underlying0
  a0 := Tryz.isAgg0
  z0 := Tryz.sizeOf0
  v0 := Tryz.zeroValue0
  t4 := Tryz.underlying4
  a4 := Tryz.isAgg4
  z4 := Tryz.sizeOf4
  v4 := Tryz.zeroValue4
  t23 := Tryz.underlying415
  a23 := Tryz.isAgg415
  z23 := Tryz.sizeOf415
  v23 := Tryz.zeroValue415
  t26 := Tryz.underlying3
  a26 := Tryz.isAgg3
  z26 := Tryz.sizeOf3
  v26 := Tryz.zeroValue3
  t27 := Tryz.underlying571
  a27 := Tryz.isAgg571
  z27 := Tryz.sizeOf571
  v27 := Tryz.zeroValue571
  t28 := Tryz.underlying572
  a28 := Tryz.isAgg572
  z28 := Tryz.sizeOf572
  v28 := Tryz.zeroValue572
  t33 := Tryz.underlying69
  a33 := Tryz.isAgg69
  z33 := Tryz.sizeOf69
  v33 := Tryz.zeroValue69 }
def Tryz.sorted403_ren : Go.Shelf.Ren := ⟨fun | 6 => 403 | 8 => 501 | 9 => 502 | 11 => 573 | 13 => 323 | 12 => 574 | 23 => 420 | 24 => 421 | 14 => 619 | 15 => 620 | 16 => 621 | 17 => 622 | 18 => 623 | 19 => 624 | 20 => 625 | 21 => 626 | 22 => 627 | 25 => 656 | 26 => 509 | 27 => 510 | 28 => 657 | 29 => 658 | 30 => 659 | 31 => 676 | n => n, fun | 26 => 3 | 28 => 572 | 24 => 74 | 0 => 0 | 3 => 3 | 37 => 496 | 48 => 191 | 50 => 22 | 4 => 4 | 40 => 582 | 39 => 581 | 45 => 587 | 5 => 5 | 9 => 9 | 51 => 685 | 55 => 688 | 57 => 749 | 58 => 638 | 33 => 69 | n => n, fun | n => n⟩
theorem Tryz.sorted403 : Go.Proofs.SlLaysZI.n6 Tryz.prog Tryz.sorted403_ren := {
  mixed := by kernel_rfl
  f6 := ⟨Tryz.f403.name, by decide, Tryz.func403.trans (congrArg some (by kernel_rfl))⟩
  f8 := ⟨Tryz.f501.name, by decide, Tryz.func501.trans (congrArg some (by kernel_rfl))⟩
  f11 := ⟨Tryz.f573.name, by decide, Tryz.func573.trans (congrArg some (by kernel_rfl))⟩
  t0 := Tryz.underlying0
  a0 := Tryz.isAgg0
  z0 := Tryz.sizeOf0
  v0 := Tryz.zeroValue0
  t24 := Tryz.underlying74
  a24 := Tryz.isAgg74
  z24 := Tryz.sizeOf74
  v24 := Tryz.zeroValue74
  t26 := Tryz.underlying3
  a26 := Tryz.isAgg3
  z26 := Tryz.sizeOf3
  v26 := Tryz.zeroValue3
  t28 := Tryz.underlying572
  a28 := Tryz.isAgg572
  z28 := Tryz.sizeOf572
  v28 := Tryz.zeroValue572
  i26 := by kernel_rfl }
def Tryz.sort502_ren : Go.Shelf.Ren := ⟨fun | 5 => 502 | 8 => 323 | 7 => 574 | 19 => 420 | 20 => 421 | 10 => 619 | 11 => 620 | 12 => 621 | 13 => 622 | 14 => 623 | 15 => 624 | 16 => 625 | 17 => 626 | 18 => 627 | 30 => 656 | 31 => 509 | 32 => 510 | 33 => 657 | 34 => 658 | 35 => 659 | 40 => 676 | n => n, fun | 23 => 74 | 25 => 3 | 3 => 3 | 32 => 496 | 22 => 74 | 0 => 0 | 44 => 191 | 46 => 22 | 4 => 4 | 36 => 582 | 35 => 581 | 41 => 587 | 5 => 5 | 9 => 9 | 53 => 685 | 57 => 688 | 63 => 749 | 64 => 638 | n => n, fun | n => n⟩
theorem Tryz.sort502 : Go.Proofs.SlLaysM.n5 Tryz.prog Tryz.sort502_ren := {
  mixed := by kernel_rfl
  f5 := ⟨Tryz.f502.name, by decide, Tryz.func502.trans (congrArg some (by kernel_rfl))⟩
  f7 := ⟨Tryz.f574.name, by decide, Tryz.func574.trans (congrArg some (by kernel_rfl))⟩
  f8 := Tryz.func323.trans (congrArg some (by kernel_rfl))
  f10 := ⟨Tryz.f619.name, by decide, Tryz.func619.trans (congrArg some (by kernel_rfl))⟩
  f11 := ⟨Tryz.f620.name, by decide, Tryz.func620.trans (congrArg some (by kernel_rfl))⟩
  f12 := ⟨Tryz.f621.name, by decide, Tryz.func621.trans (congrArg some (by kernel_rfl))⟩
  f13 := ⟨Tryz.f622.name, by decide, Tryz.func622.trans (congrArg some (by kernel_rfl))⟩
  f14 := ⟨Tryz.f623.name, by decide, Tryz.func623.trans (congrArg some (by kernel_rfl))⟩
  f15 := ⟨Tryz.f624.name, by decide, Tryz.func624.trans (congrArg some (by kernel_rfl))⟩
  f16 := ⟨Tryz.f625.name, by decide, Tryz.func625.trans (congrArg some (by kernel_rfl))⟩
  f17 := ⟨Tryz.f626.name, by decide, Tryz.func626.trans (congrArg some (by kernel_rfl))⟩
  f18 := ⟨Tryz.f627.name, by decide, Tryz.func627.trans (congrArg some (by kernel_rfl))⟩
  f19 := Tryz.func420.trans (congrArg some (by kernel_rfl))
  f20 := Tryz.func421.trans (congrArg some (by kernel_rfl))
  f30 := ⟨Tryz.f656.name, by decide, Tryz.func656.trans (congrArg some (by kernel_rfl))⟩
  f31 := Tryz.func509.trans (congrArg some (by kernel_rfl))
  f32 := Tryz.func510.trans (congrArg some (by kernel_rfl))
  f33 := ⟨Tryz.f657.name, by decide, Tryz.func657.trans (congrArg some (by kernel_rfl))⟩
  f34 := ⟨Tryz.f658.name, by decide, Tryz.func658.trans (congrArg some (by kernel_rfl))⟩
  f35 := ⟨Tryz.f659.name, by decide, Tryz.func659.trans (congrArg some (by kernel_rfl))⟩
  f40 := ⟨Tryz.f676.name, by decide, Tryz.func676.trans (congrArg some (by kernel_rfl))⟩
  t0 := Tryz.underlying0
  a0 := Tryz.isAgg0
  z0 := Tryz.sizeOf0
  v0 := Tryz.zeroValue0
  t3 := Tryz.underlying3
  a3 := Tryz.isAgg3
  z3 := Tryz.sizeOf3
  v3 := Tryz.zeroValue3
  t4 := Tryz.underlying4
  a4 := Tryz.isAgg4
  z4 := Tryz.sizeOf4
  v4 := Tryz.zeroValue4
  t5 := Tryz.underlying5
  a5 := Tryz.isAgg5
  z5 := Tryz.sizeOf5
  v5 := Tryz.zeroValue5
  t9 := Tryz.underlying9
  a9 := Tryz.isAgg9
  z9 := Tryz.sizeOf9
  v9 := Tryz.zeroValue9
  t22 := Tryz.underlying74
  a22 := Tryz.isAgg74
  z22 := Tryz.sizeOf74
  v22 := Tryz.zeroValue74
  t23 := Tryz.underlying74
  a23 := Tryz.isAgg74
  z23 := Tryz.sizeOf74
  v23 := Tryz.zeroValue74
  t25 := Tryz.underlying3
  a25 := Tryz.isAgg3
  z25 := Tryz.sizeOf3
  v25 := Tryz.zeroValue3
  t32 := Tryz.underlying496
  a32 := Tryz.isAgg496
  z32 := Tryz.sizeOf496
  v32 := Tryz.zeroValue496
  t35 := Tryz.underlying581
  a35 := Tryz.isAgg581
  z35 := Tryz.sizeOf581
  v35 := Tryz.zeroValue581
  t36 := Tryz.underlying582
  a36 := Tryz.isAgg582
  z36 := Tryz.sizeOf582
  v36 := Tryz.zeroValue582
  t41 := Tryz.underlying587
  a41 := Tryz.isAgg587
  z41 := Tryz.sizeOf587
  v41 := Tryz.zeroValue587
  t44 := Tryz.underlying191
  a44 := Tryz.isAgg191
  z44 := Tryz.sizeOf191
  v44 := Tryz.zeroValue191
  t46 := Tryz.underlying22
  a46 := Tryz.isAgg22
  z46 := Tryz.sizeOf22
  v46 := Tryz.zeroValue22
  t53 := Tryz.underlying685
  a53 := Tryz.isAgg685
  z53 := Tryz.sizeOf685
  v53 := Tryz.zeroValue685
  t57 := Tryz.underlying688
  a57 := Tryz.isAgg688
  z57 := Tryz.sizeOf688
  v57 := Tryz.zeroValue688
  t63 := Tryz.underlying749
  a63 := Tryz.isAgg749
  z63 := Tryz.sizeOf749
  v63 := Tryz.zeroValue749
  t64 := Tryz.underlying638
  a64 := Tryz.isAgg638
  z64 := Tryz.sizeOf638
  v64 := Tryz.zeroValue638 }
set_option maxHeartbeats 1000000 in
open Go.RowKit Go.Maps Go.Sort in
theorem Tryz.sorts403 (m : Nat) : AnyZI.SortsIn Tryz.prog Tryz.sorted403_ren Fence.wide m :=
  ⟨fun blk off cap ss W hH hblk hsz => callsIn_wide.2 (AnyM.slices_Sort_int Tryz.sort502 blk off cap ss W hH hblk hsz),
   fun p cap W => callsIn_wide.2 (AnyM.slices_Sort_int_none Tryz.sort502 p cap W)⟩
end Go.Proofs
