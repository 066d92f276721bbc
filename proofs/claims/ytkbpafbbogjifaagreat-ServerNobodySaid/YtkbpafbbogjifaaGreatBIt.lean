/- Several texts in one: Iter, IterI. What each proves stands ahead of it. -/
import Derived.Shelf.SlGeneric
import Derived.Shelf.SlIter.Nil
import Derived.Shelf.SortM.Plain
import Derived.Shelf.SortM.SortNone
import Derived.Ground.GgzProg
import Derived.Ground.SlgmProg
import Derived.Test.YtkbpafbbogjifaaGreatProg
import Derived.Shelf.SlIterI.Nil
/-
  DERIVED: THE SHELF's CONTRACTS AT THIS DUMP, IN PLAIN WORDS (tools/lay-plain.mjs out of 'YtkbpafbbogjifaaGreatIterS.lean', which tools/lay-shelf.mjs wrote): THE SAME DECLARATIONS UNDER THE SAME NAMES: 'import', 'namespace', 'open', 'def', 'theorem' AND NOTHING ELSE: no command of the shelf's: FOR A HAND-IN. Each laying: the table of numbers ('.._ren') and one theorem, a field a fact of the dump's own or the kernel's comparison; each contract: ONE APPLICATION.
-/
namespace Go.Proofs
open Go.Shelf
def Tryz.keys415_ren : Go.Shelf.Ren := ⟨fun | 7 => 415 | 10 => 481 | n => n, fun | 23 => 87 | 26 => 9 | 3 => 464 | 28 => 567 | 0 => 0 | 27 => 566 | 33 => 472 | 4 => 4 | n => n, fun | n => n⟩
theorem Tryz.keys415 : Go.Proofs.SlLaysZ.n7 Tryz.prog Tryz.keys415_ren := {
  mixed := by kernel_rfl
  f7 := ⟨Tryz.f415.name, by decide, Tryz.func415.trans (congrArg some (by kernel_rfl))⟩
  f10 := ⟨Tryz.f481.name, by decide, Tryz.func481.trans (congrArg some (by kernel_rfl))⟩
  t0 := Tryz.underlying0
  a0 := Tryz.isAgg0
  z0 := Tryz.sizeOf0
  v0 := Tryz.zeroValue0
  t4 := Tryz.underlying4
  a4 := Tryz.isAgg4
  z4 := Tryz.sizeOf4
  v4 := Tryz.zeroValue4
  t23 := Tryz.underlying87
  a23 := Tryz.isAgg87
  z23 := Tryz.sizeOf87
  v23 := Tryz.zeroValue87
  t26 := Tryz.underlying9
  a26 := Tryz.isAgg9
  z26 := Tryz.sizeOf9
  v26 := Tryz.zeroValue9
  t27 := Tryz.underlying566
  a27 := Tryz.isAgg566
  z27 := Tryz.sizeOf566
  v27 := Tryz.zeroValue566
  t28 := Tryz.underlying567
  a28 := Tryz.isAgg567
  z28 := Tryz.sizeOf567
  v28 := Tryz.zeroValue567
  t33 := Tryz.underlying472
  a33 := Tryz.isAgg472
  z33 := Tryz.sizeOf472
  v33 := Tryz.zeroValue472 }
def Tryz.sorted414_ren : Go.Shelf.Ren := ⟨fun | 6 => 414 | 8 => 479 | 9 => 480 | 11 => 543 | 13 => 470 | 12 => 544 | 23 => 528 | 24 => 529 | 14 => 574 | 15 => 575 | 16 => 576 | 17 => 577 | 18 => 578 | 19 => 579 | 20 => 580 | 21 => 581 | 22 => 582 | 25 => 598 | 26 => 561 | 27 => 562 | 28 => 599 | 29 => 600 | 30 => 601 | 31 => 606 | n => n, fun | 26 => 9 | 28 => 567 | 24 => 468 | 0 => 0 | 3 => 3 | 37 => 398 | 48 => 485 | 50 => 22 | 4 => 4 | 40 => 662 | 39 => 661 | 45 => 594 | 5 => 5 | 9 => 9 | 51 => 692 | 55 => 695 | 57 => 715 | 58 => 588 | 33 => 472 | n => n, fun | n => n⟩
theorem Tryz.sorted414 : Go.Proofs.SlLaysZ.n6 Tryz.prog Tryz.sorted414_ren := {
  mixed := by kernel_rfl
  f6 := ⟨Tryz.f414.name, by decide, Tryz.func414.trans (congrArg some (by kernel_rfl))⟩
  f8 := ⟨Tryz.f479.name, by decide, Tryz.func479.trans (congrArg some (by kernel_rfl))⟩
  f11 := ⟨Tryz.f543.name, by decide, Tryz.func543.trans (congrArg some (by kernel_rfl))⟩
  t0 := Tryz.underlying0
  a0 := Tryz.isAgg0
  z0 := Tryz.sizeOf0
  v0 := Tryz.zeroValue0
  t24 := Tryz.underlying468
  a24 := Tryz.isAgg468
  z24 := Tryz.sizeOf468
  v24 := Tryz.zeroValue468
  t26 := Tryz.underlying9
  a26 := Tryz.isAgg9
  z26 := Tryz.sizeOf9
  v26 := Tryz.zeroValue9
  t28 := Tryz.underlying567
  a28 := Tryz.isAgg567
  z28 := Tryz.sizeOf567
  v28 := Tryz.zeroValue567
  i26 := by kernel_rfl }
def Tryz.sort480_ren : Go.Shelf.Ren := ⟨fun | 6 => 480 | 8 => 470 | 9 => 544 | 19 => 528 | 20 => 529 | 21 => 574 | 22 => 575 | 23 => 576 | 24 => 577 | 25 => 578 | 26 => 579 | 27 => 580 | 28 => 581 | 29 => 582 | 36 => 598 | 31 => 561 | 32 => 562 | 37 => 599 | 38 => 600 | 39 => 601 | 41 => 606 | n => n, fun | 27 => 468 | 29 => 9 | 3 => 3 | 32 => 398 | 26 => 468 | 0 => 0 | 44 => 485 | 46 => 22 | 4 => 4 | 36 => 662 | 35 => 661 | 41 => 594 | 5 => 5 | 9 => 9 | 53 => 692 | 57 => 695 | 63 => 715 | 64 => 588 | n => n, fun | n => n⟩
theorem Tryz.sort480 : Go.Proofs.SlLaysM.n6 Tryz.prog Tryz.sort480_ren := {
  mixed := by kernel_rfl
  f6 := ⟨Tryz.f480.name, by decide, Tryz.func480.trans (congrArg some (by kernel_rfl))⟩
  f8 := Tryz.func470.trans (congrArg some (by kernel_rfl))
  f9 := ⟨Tryz.f544.name, by decide, Tryz.func544.trans (congrArg some (by kernel_rfl))⟩
  f19 := Tryz.func528.trans (congrArg some (by kernel_rfl))
  f20 := Tryz.func529.trans (congrArg some (by kernel_rfl))
  f21 := ⟨Tryz.f574.name, by decide, Tryz.func574.trans (congrArg some (by kernel_rfl))⟩
  f22 := ⟨Tryz.f575.name, by decide, Tryz.func575.trans (congrArg some (by kernel_rfl))⟩
  f23 := ⟨Tryz.f576.name, by decide, Tryz.func576.trans (congrArg some (by kernel_rfl))⟩
  f24 := ⟨Tryz.f577.name, by decide, Tryz.func577.trans (congrArg some (by kernel_rfl))⟩
  f25 := ⟨Tryz.f578.name, by decide, Tryz.func578.trans (congrArg some (by kernel_rfl))⟩
  f26 := ⟨Tryz.f579.name, by decide, Tryz.func579.trans (congrArg some (by kernel_rfl))⟩
  f27 := ⟨Tryz.f580.name, by decide, Tryz.func580.trans (congrArg some (by kernel_rfl))⟩
  f28 := ⟨Tryz.f581.name, by decide, Tryz.func581.trans (congrArg some (by kernel_rfl))⟩
  f29 := ⟨Tryz.f582.name, by decide, Tryz.func582.trans (congrArg some (by kernel_rfl))⟩
  f31 := Tryz.func561.trans (congrArg some (by kernel_rfl))
  f32 := Tryz.func562.trans (congrArg some (by kernel_rfl))
  f36 := ⟨Tryz.f598.name, by decide, Tryz.func598.trans (congrArg some (by kernel_rfl))⟩
  f37 := ⟨Tryz.f599.name, by decide, Tryz.func599.trans (congrArg some (by kernel_rfl))⟩
  f38 := ⟨Tryz.f600.name, by decide, Tryz.func600.trans (congrArg some (by kernel_rfl))⟩
  f39 := ⟨Tryz.f601.name, by decide, Tryz.func601.trans (congrArg some (by kernel_rfl))⟩
  f41 := ⟨Tryz.f606.name, by decide, Tryz.func606.trans (congrArg some (by kernel_rfl))⟩
  t0 := Tryz.underlying0
  a0 := Tryz.isAgg0
  z0 := Tryz.sizeOf0
  v0 := Tryz.zeroValue0
  t3 := Tryz.underlying3
  a3 := Tryz.isAgg3
  z3 := Tryz.sizeOf3
  v3 := Tryz.zeroValue3
  t4 := Tryz.underlying4
  a4 := Tryz.isAgg4
  z4 := Tryz.sizeOf4
  v4 := Tryz.zeroValue4
  t5 := Tryz.underlying5
  a5 := Tryz.isAgg5
  z5 := Tryz.sizeOf5
  v5 := Tryz.zeroValue5
  t9 := Tryz.underlying9
  a9 := Tryz.isAgg9
  z9 := Tryz.sizeOf9
  v9 := Tryz.zeroValue9
  t26 := Tryz.underlying468
  a26 := Tryz.isAgg468
  z26 := Tryz.sizeOf468
  v26 := Tryz.zeroValue468
  t27 := Tryz.underlying468
  a27 := Tryz.isAgg468
  z27 := Tryz.sizeOf468
  v27 := Tryz.zeroValue468
  t29 := Tryz.underlying9
  a29 := Tryz.isAgg9
  z29 := Tryz.sizeOf9
  v29 := Tryz.zeroValue9
  t32 := Tryz.underlying398
  a32 := Tryz.isAgg398
  z32 := Tryz.sizeOf398
  v32 := Tryz.zeroValue398
  t35 := Tryz.underlying661
  a35 := Tryz.isAgg661
  z35 := Tryz.sizeOf661
  v35 := Tryz.zeroValue661
  t36 := Tryz.underlying662
  a36 := Tryz.isAgg662
  z36 := Tryz.sizeOf662
  v36 := Tryz.zeroValue662
  t41 := Tryz.underlying594
  a41 := Tryz.isAgg594
  z41 := Tryz.sizeOf594
  v41 := Tryz.zeroValue594
  t44 := Tryz.underlying485
  a44 := Tryz.isAgg485
  z44 := Tryz.sizeOf485
  v44 := Tryz.zeroValue485
  t46 := Tryz.underlying22
  a46 := Tryz.isAgg22
  z46 := Tryz.sizeOf22
  v46 := Tryz.zeroValue22
  t53 := Tryz.underlying692
  a53 := Tryz.isAgg692
  z53 := Tryz.sizeOf692
  v53 := Tryz.zeroValue692
  t57 := Tryz.underlying695
  a57 := Tryz.isAgg695
  z57 := Tryz.sizeOf695
  v57 := Tryz.zeroValue695
  t63 := Tryz.underlying715
  a63 := Tryz.isAgg715
  z63 := Tryz.sizeOf715
  v63 := Tryz.zeroValue715
  t64 := Tryz.underlying588
  a64 := Tryz.isAgg588
  z64 := Tryz.sizeOf588
  v64 := Tryz.zeroValue588 }
set_option maxHeartbeats 1000000 in
open Go.RowKit Go.Maps Go.Sort in
theorem Tryz.sorts414 (m : Nat) : AnyZ.SortsIn Tryz.prog Tryz.sorted414_ren Fence.wide m :=
  ⟨fun blk off cap ss W hH hblk hsz => callsIn_wide.2 (AnyM.slices_Sort_string Tryz.sort480 blk off cap ss W hH hblk hsz),
   fun p cap W => callsIn_wide.2 (AnyM.slices_Sort_string_none Tryz.sort480 p cap W)⟩
set_option maxHeartbeats 1000000 in
open Go.RowKit Go.Maps Go.Sort in
theorem Tryz.maps_Keys_415 (mb : Option Nat) (W : World) : CallsIn Fence.wide 5 Tryz.prog 415 #[.map mb] W fun e w' => e = .returned (.func (.func 481) #[] #[.pointer (some ⟨W.heap.size, 0, none⟩)]) ∧ w' = W.alloc (.cells #[.map mb] 87) :=
  AnyZ.keys_in Tryz.keys415 Fence.wide 5 trivial rfl mb W
set_option maxHeartbeats 1000000 in
open Go.RowKit Go.Maps Go.Sort in
theorem Tryz.slices_Sorted_keys_414_415 {H : Type} (b nn : Nat) (D0 : DataW H) (R : Value → Option (DataW H × List MemPlace)) (w : World) (hown : w.ownsMap Tryz.prog 9 R b nn D0) (hmax : Maps.size D0 ≤ maxLen) (hbytes : Maps.size D0 * 16 ≤ 140737488355328) :
    CallsIn Fence.wide 5 Tryz.prog 414 #[.func (.func 481) #[] #[.pointer (some ⟨w.heap.size, 0, none⟩)]] (w.alloc (.cells #[.map (some b)] 87)) fun e w' => ∃ (v : Value) (ss : List (List UInt8)), e = .returned v ∧ ss.Perm (strKeys D0) ∧
      w'.ownsRow (w.alloc (.cells #[.map (some b)] 87)).heap.size 9 1 v ss.length ((ss.mergeSort (fun x y => decide (x ≤ y))).map encStr) ∧ (v = .slice none 0 0 ↔ ss = []) ∧ Below (w.alloc (.cells #[.map (some b)] 87)).heap.size (w.alloc (.cells #[.map (some b)] 87)) w' := by
  have hbl := hown.lt
  have hseq : SeqGives Fence.wide 2 Tryz.prog 481 #[.pointer (some ⟨w.heap.size, 0, none⟩)] encStr (fun ss => ss.Perm (strKeys D0)) (Maps.size D0) (w.alloc (.cells #[.map (some b)] 87)) :=
    AnyZ.keys_gives (ρ := Tryz.keys415_ren) { Tryz.keys415 with } Fence.wide _ trivial rfl (by omega) w.heap.size b nn D0 _ (by simp) (by simp) (by
      obtain ⟨es, clock, hb, Ft, hs, hD⟩ := hown
      exact ⟨es, clock, (Below.heap_alloc _ _ b hbl).trans hb, Ft, hs, hD⟩)
  exact AnyZ.sorted_in Tryz.sorted414 Fence.wide 5 trivial trivial trivial trivial rfl (by omega) (Tryz.sorts414 _) (enters_of Tryz.func480 (by kernel_rfl) rfl) 481 #[.pointer (some ⟨w.heap.size, 0, none⟩)] trivial (enters_of Tryz.func481 (by kernel_rfl) rfl) _ _ hmax hbytes _ hseq
set_option maxHeartbeats 1000000 in
open Go.RowKit Go.Maps Go.Sort in
theorem Tryz.slices_Sorted_keys_nil_414_415 (w : World) :
    CallsIn Fence.wide 5 Tryz.prog 414 #[.func (.func 481) #[] #[.pointer (some ⟨w.heap.size, 0, none⟩)]] (w.alloc (.cells #[.map none] 87)) fun e w' => ∃ (v : Value) (ss : List (List UInt8)), e = .returned v ∧ ss = [] ∧
      w'.ownsRow (w.alloc (.cells #[.map none] 87)).heap.size 9 1 v ss.length ((ss.mergeSort (fun x y => decide (x ≤ y))).map encStr) ∧ (v = .slice none 0 0 ↔ ss = []) ∧ Below (w.alloc (.cells #[.map none] 87)).heap.size (w.alloc (.cells #[.map none] 87)) w' := by
  have hseq : SeqGives Fence.wide 2 Tryz.prog 481 #[.pointer (some ⟨w.heap.size, 0, none⟩)] encStr (fun ss : List (List UInt8) => ss = []) 0 (w.alloc (.cells #[.map none] 87)) :=
    AnyZ.keys_gives_nil (ρ := Tryz.keys415_ren) { Tryz.keys415 with } Fence.wide _ trivial rfl w.heap.size _ (by simp) (by simp)
  exact AnyZ.sorted_in Tryz.sorted414 Fence.wide 5 trivial trivial trivial trivial rfl (by omega) (Tryz.sorts414 _) (enters_of Tryz.func480 (by kernel_rfl) rfl) 481 #[.pointer (some ⟨w.heap.size, 0, none⟩)] trivial (enters_of Tryz.func481 (by kernel_rfl) rfl) _ 0 (Nat.zero_le _) (by omega) _ hseq
end Go.Proofs

/-
  DERIVED: THE SHELF's CONTRACTS AT THIS DUMP, IN PLAIN WORDS (tools/lay-plain.mjs out of 'YtkbpafbbogjifaaGreatIterIS.lean', which tools/lay-shelf.mjs wrote): THE SAME DECLARATIONS UNDER THE SAME NAMES: 'import', 'namespace', 'open', 'def', 'theorem' AND NOTHING ELSE: no command of the shelf's: FOR A HAND-IN. Each laying: the table of numbers ('.._ren') and one theorem, a field a fact of the dump's own or the kernel's comparison; each contract: ONE APPLICATION.
-/
namespace Go.Proofs
open Go.Shelf
def Tryz.keys313_ren : Go.Shelf.Ren := ⟨fun | 7 => 313 | 10 => 401 | n => n, fun | 23 => 314 | 26 => 3 | 3 => 317 | 28 => 450 | 0 => 0 | 27 => 449 | 33 => 296 | 4 => 4 | n => n, fun | n => n⟩
theorem Tryz.keys313 : Go.Proofs.SlLaysZI.n7 Tryz.prog Tryz.keys313_ren := {
  mixed := by kernel_rfl
  f7 := ⟨Tryz.f313.name, by decide, Tryz.func313.trans (congrArg some (by kernel_rfl))⟩
  f10 := ⟨Tryz.f401.name, by decide, Tryz.func401.trans (congrArg some (by kernel_rfl))⟩
  t0 := Tryz.underlying0
  a0 := Tryz.isAgg0
  z0 := Tryz.sizeOf0
  v0 := Tryz.zeroValue0
  t4 := Tryz.underlying4
  a4 := Tryz.isAgg4
  z4 := Tryz.sizeOf4
  v4 := Tryz.zeroValue4
  t23 := Tryz.underlying314
  a23 := Tryz.isAgg314
  z23 := Tryz.sizeOf314
  v23 := Tryz.zeroValue314
  t26 := Tryz.underlying3
  a26 := Tryz.isAgg3
  z26 := Tryz.sizeOf3
  v26 := Tryz.zeroValue3
  t27 := Tryz.underlying449
  a27 := Tryz.isAgg449
  z27 := Tryz.sizeOf449
  v27 := Tryz.zeroValue449
  t28 := Tryz.underlying450
  a28 := Tryz.isAgg450
  z28 := Tryz.sizeOf450
  v28 := Tryz.zeroValue450
  t33 := Tryz.underlying296
  a33 := Tryz.isAgg296
  z33 := Tryz.sizeOf296
  v33 := Tryz.zeroValue296 }
def Tryz.sorted312_ren : Go.Shelf.Ren := ⟨fun | 6 => 312 | 8 => 399 | 9 => 400 | 11 => 468 | 13 => 470 | 12 => 469 | 23 => 528 | 24 => 529 | 14 => 519 | 15 => 520 | 16 => 521 | 17 => 522 | 18 => 523 | 19 => 524 | 20 => 525 | 21 => 526 | 22 => 527 | 25 => 560 | 26 => 561 | 27 => 562 | 28 => 563 | 29 => 564 | 30 => 565 | 31 => 592 | n => n, fun | 26 => 3 | 28 => 450 | 24 => 24 | 0 => 0 | 3 => 3 | 37 => 398 | 48 => 485 | 50 => 22 | 4 => 4 | 40 => 662 | 39 => 661 | 45 => 594 | 5 => 5 | 9 => 9 | 51 => 692 | 55 => 695 | 57 => 715 | 58 => 588 | 33 => 296 | n => n, fun | n => n⟩
theorem Tryz.sorted312 : Go.Proofs.SlLaysZI.n6 Tryz.prog Tryz.sorted312_ren := {
  mixed := by kernel_rfl
  f6 := ⟨Tryz.f312.name, by decide, Tryz.func312.trans (congrArg some (by kernel_rfl))⟩
  f8 := ⟨Tryz.f399.name, by decide, Tryz.func399.trans (congrArg some (by kernel_rfl))⟩
  f11 := ⟨Tryz.f468.name, by decide, Tryz.func468.trans (congrArg some (by kernel_rfl))⟩
  t0 := Tryz.underlying0
  a0 := Tryz.isAgg0
  z0 := Tryz.sizeOf0
  v0 := Tryz.zeroValue0
  t24 := Tryz.underlying24
  a24 := Tryz.isAgg24
  z24 := Tryz.sizeOf24
  v24 := Tryz.zeroValue24
  t26 := Tryz.underlying3
  a26 := Tryz.isAgg3
  z26 := Tryz.sizeOf3
  v26 := Tryz.zeroValue3
  t28 := Tryz.underlying450
  a28 := Tryz.isAgg450
  z28 := Tryz.sizeOf450
  v28 := Tryz.zeroValue450
  i26 := by kernel_rfl }
def Tryz.sort400_ren : Go.Shelf.Ren := ⟨fun | 5 => 400 | 8 => 470 | 7 => 469 | 19 => 528 | 20 => 529 | 10 => 519 | 11 => 520 | 12 => 521 | 13 => 522 | 14 => 523 | 15 => 524 | 16 => 525 | 17 => 526 | 18 => 527 | 30 => 560 | 31 => 561 | 32 => 562 | 33 => 563 | 34 => 564 | 35 => 565 | 40 => 592 | n => n, fun | 23 => 24 | 25 => 3 | 3 => 3 | 32 => 398 | 22 => 24 | 0 => 0 | 44 => 485 | 46 => 22 | 4 => 4 | 36 => 662 | 35 => 661 | 41 => 594 | 5 => 5 | 9 => 9 | 53 => 692 | 57 => 695 | 63 => 715 | 64 => 588 | n => n, fun | n => n⟩
theorem Tryz.sort400 : Go.Proofs.SlLaysM.n5 Tryz.prog Tryz.sort400_ren := {
  mixed := by kernel_rfl
  f5 := ⟨Tryz.f400.name, by decide, Tryz.func400.trans (congrArg some (by kernel_rfl))⟩
  f7 := ⟨Tryz.f469.name, by decide, Tryz.func469.trans (congrArg some (by kernel_rfl))⟩
  f8 := Tryz.func470.trans (congrArg some (by kernel_rfl))
  f10 := ⟨Tryz.f519.name, by decide, Tryz.func519.trans (congrArg some (by kernel_rfl))⟩
  f11 := ⟨Tryz.f520.name, by decide, Tryz.func520.trans (congrArg some (by kernel_rfl))⟩
  f12 := ⟨Tryz.f521.name, by decide, Tryz.func521.trans (congrArg some (by kernel_rfl))⟩
  f13 := ⟨Tryz.f522.name, by decide, Tryz.func522.trans (congrArg some (by kernel_rfl))⟩
  f14 := ⟨Tryz.f523.name, by decide, Tryz.func523.trans (congrArg some (by kernel_rfl))⟩
  f15 := ⟨Tryz.f524.name, by decide, Tryz.func524.trans (congrArg some (by kernel_rfl))⟩
  f16 := ⟨Tryz.f525.name, by decide, Tryz.func525.trans (congrArg some (by kernel_rfl))⟩
  f17 := ⟨Tryz.f526.name, by decide, Tryz.func526.trans (congrArg some (by kernel_rfl))⟩
  f18 := ⟨Tryz.f527.name, by decide, Tryz.func527.trans (congrArg some (by kernel_rfl))⟩
  f19 := Tryz.func528.trans (congrArg some (by kernel_rfl))
  f20 := Tryz.func529.trans (congrArg some (by kernel_rfl))
  f30 := ⟨Tryz.f560.name, by decide, Tryz.func560.trans (congrArg some (by kernel_rfl))⟩
  f31 := Tryz.func561.trans (congrArg some (by kernel_rfl))
  f32 := Tryz.func562.trans (congrArg some (by kernel_rfl))
  f33 := ⟨Tryz.f563.name, by decide, Tryz.func563.trans (congrArg some (by kernel_rfl))⟩
  f34 := ⟨Tryz.f564.name, by decide, Tryz.func564.trans (congrArg some (by kernel_rfl))⟩
  f35 := ⟨Tryz.f565.name, by decide, Tryz.func565.trans (congrArg some (by kernel_rfl))⟩
  f40 := ⟨Tryz.f592.name, by decide, Tryz.func592.trans (congrArg some (by kernel_rfl))⟩
  t0 := Tryz.underlying0
  a0 := Tryz.isAgg0
  z0 := Tryz.sizeOf0
  v0 := Tryz.zeroValue0
  t3 := Tryz.underlying3
  a3 := Tryz.isAgg3
  z3 := Tryz.sizeOf3
  v3 := Tryz.zeroValue3
  t4 := Tryz.underlying4
  a4 := Tryz.isAgg4
  z4 := Tryz.sizeOf4
  v4 := Tryz.zeroValue4
  t5 := Tryz.underlying5
  a5 := Tryz.isAgg5
  z5 := Tryz.sizeOf5
  v5 := Tryz.zeroValue5
  t9 := Tryz.underlying9
  a9 := Tryz.isAgg9
  z9 := Tryz.sizeOf9
  v9 := Tryz.zeroValue9
  t22 := Tryz.underlying24
  a22 := Tryz.isAgg24
  z22 := Tryz.sizeOf24
  v22 := Tryz.zeroValue24
  t23 := Tryz.underlying24
  a23 := Tryz.isAgg24
  z23 := Tryz.sizeOf24
  v23 := Tryz.zeroValue24
  t25 := Tryz.underlying3
  a25 := Tryz.isAgg3
  z25 := Tryz.sizeOf3
  v25 := Tryz.zeroValue3
  t32 := Tryz.underlying398
  a32 := Tryz.isAgg398
  z32 := Tryz.sizeOf398
  v32 := Tryz.zeroValue398
  t35 := Tryz.underlying661
  a35 := Tryz.isAgg661
  z35 := Tryz.sizeOf661
  v35 := Tryz.zeroValue661
  t36 := Tryz.underlying662
  a36 := Tryz.isAgg662
  z36 := Tryz.sizeOf662
  v36 := Tryz.zeroValue662
  t41 := Tryz.underlying594
  a41 := Tryz.isAgg594
  z41 := Tryz.sizeOf594
  v41 := Tryz.zeroValue594
  t44 := Tryz.underlying485
  a44 := Tryz.isAgg485
  z44 := Tryz.sizeOf485
  v44 := Tryz.zeroValue485
  t46 := Tryz.underlying22
  a46 := Tryz.isAgg22
  z46 := Tryz.sizeOf22
  v46 := Tryz.zeroValue22
  t53 := Tryz.underlying692
  a53 := Tryz.isAgg692
  z53 := Tryz.sizeOf692
  v53 := Tryz.zeroValue692
  t57 := Tryz.underlying695
  a57 := Tryz.isAgg695
  z57 := Tryz.sizeOf695
  v57 := Tryz.zeroValue695
  t63 := Tryz.underlying715
  a63 := Tryz.isAgg715
  z63 := Tryz.sizeOf715
  v63 := Tryz.zeroValue715
  t64 := Tryz.underlying588
  a64 := Tryz.isAgg588
  z64 := Tryz.sizeOf588
  v64 := Tryz.zeroValue588 }
set_option maxHeartbeats 1000000 in
open Go.RowKit Go.Maps Go.Sort in
theorem Tryz.sorts312 (m : Nat) : AnyZI.SortsIn Tryz.prog Tryz.sorted312_ren Fence.wide m :=
  ⟨fun blk off cap ss W hH hblk hsz => callsIn_wide.2 (AnyM.slices_Sort_int Tryz.sort400 blk off cap ss W hH hblk hsz),
   fun p cap W => callsIn_wide.2 (AnyM.slices_Sort_int_none Tryz.sort400 p cap W)⟩
end Go.Proofs
