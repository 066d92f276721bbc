/-
  DERIVED: THE SHELF's CONTRACTS AT THIS DUMP, IN PLAIN WORDS (tools/lay-plain.mjs out of 'YtcdlhokeednjfaaGreatIterIS.lean', which tools/lay-shelf.mjs wrote): THE SAME DECLARATIONS UNDER THE SAME NAMES: 'import', 'namespace', 'open', 'def', 'theorem' AND NOTHING ELSE: no command of the shelf's: FOR A HAND-IN. Each laying: the table of numbers ('.._ren') and one theorem, a field a fact of the dump's own or the kernel's comparison; each contract: ONE APPLICATION.
-/
import Derived.Shelf.SlGeneric
import Derived.Shelf.SlIterI.Nil
import Derived.Shelf.SortM.Plain
import Derived.Shelf.SortM.SortNone
import Derived.Ground.GgzProg
import Derived.Ground.SlgmProg
import Derived.Test.YtcdlhokeednjfaaGreatProg
namespace Go.Proofs
open Go.Shelf
def Tryz.keys147_ren : Go.Shelf.Ren := ⟨fun | 7 => 147 | 10 => 197 | n => n, fun | 23 => 143 | 26 => 3 | 3 => 146 | 28 => 199 | 0 => 0 | 27 => 198 | 33 => 142 | 4 => 4 | n => n, fun | n => n⟩
theorem Tryz.keys147 : Go.Proofs.SlLaysZI.n7 Tryz.prog Tryz.keys147_ren := {
  mixed := by kernel_rfl
  f7 := ⟨Tryz.f147.name, by decide, Tryz.func147.trans (congrArg some (by kernel_rfl))⟩
  f10 := ⟨Tryz.f197.name, by decide, Tryz.func197.trans (congrArg some (by kernel_rfl))⟩
  t0 := Tryz.underlying0
  a0 := Tryz.isAgg0
  z0 := Tryz.sizeOf0
  v0 := Tryz.zeroValue0
  t4 := Tryz.underlying4
  a4 := Tryz.isAgg4
  z4 := Tryz.sizeOf4
  v4 := Tryz.zeroValue4
  t23 := Tryz.underlying143
  a23 := Tryz.isAgg143
  z23 := Tryz.sizeOf143
  v23 := Tryz.zeroValue143
  t26 := Tryz.underlying3
  a26 := Tryz.isAgg3
  z26 := Tryz.sizeOf3
  v26 := Tryz.zeroValue3
  t27 := Tryz.underlying198
  a27 := Tryz.isAgg198
  z27 := Tryz.sizeOf198
  v27 := Tryz.zeroValue198
  t28 := Tryz.underlying199
  a28 := Tryz.isAgg199
  z28 := Tryz.sizeOf199
  v28 := Tryz.zeroValue199
  t33 := Tryz.underlying142
  a33 := Tryz.isAgg142
  z33 := Tryz.sizeOf142
  v33 := Tryz.zeroValue142 }
def Tryz.sorted146_ren : Go.Shelf.Ren := ⟨fun | 6 => 146 | 8 => 195 | 9 => 196 | 11 => 225 | 13 => 227 | 12 => 226 | 23 => 252 | 24 => 253 | 14 => 243 | 15 => 244 | 16 => 245 | 17 => 246 | 18 => 247 | 19 => 248 | 20 => 249 | 21 => 250 | 22 => 251 | 25 => 271 | 26 => 272 | 27 => 273 | 28 => 274 | 29 => 275 | 30 => 276 | 31 => 294 | n => n, fun | 26 => 3 | 28 => 199 | 24 => 24 | 0 => 0 | 3 => 3 | 37 => 244 | 48 => 301 | 50 => 22 | 4 => 4 | 40 => 293 | 39 => 292 | 45 => 298 | 5 => 5 | 9 => 9 | 51 => 316 | 55 => 319 | 57 => 335 | 58 => 336 | 33 => 142 | n => n, fun | n => n⟩
theorem Tryz.sorted146 : Go.Proofs.SlLaysZI.n6 Tryz.prog Tryz.sorted146_ren := {
  mixed := by kernel_rfl
  f6 := ⟨Tryz.f146.name, by decide, Tryz.func146.trans (congrArg some (by kernel_rfl))⟩
  f8 := ⟨Tryz.f195.name, by decide, Tryz.func195.trans (congrArg some (by kernel_rfl))⟩
  f11 := ⟨Tryz.f225.name, by decide, Tryz.func225.trans (congrArg some (by kernel_rfl))⟩
  t0 := Tryz.underlying0
  a0 := Tryz.isAgg0
  z0 := Tryz.sizeOf0
  v0 := Tryz.zeroValue0
  t24 := Tryz.underlying24
  a24 := Tryz.isAgg24
  z24 := Tryz.sizeOf24
  v24 := Tryz.zeroValue24
  t26 := Tryz.underlying3
  a26 := Tryz.isAgg3
  z26 := Tryz.sizeOf3
  v26 := Tryz.zeroValue3
  t28 := Tryz.underlying199
  a28 := Tryz.isAgg199
  z28 := Tryz.sizeOf199
  v28 := Tryz.zeroValue199
  i26 := by kernel_rfl }
def Tryz.sort196_ren : Go.Shelf.Ren := ⟨fun | 5 => 196 | 8 => 227 | 7 => 226 | 19 => 252 | 20 => 253 | 10 => 243 | 11 => 244 | 12 => 245 | 13 => 246 | 14 => 247 | 15 => 248 | 16 => 249 | 17 => 250 | 18 => 251 | 30 => 271 | 31 => 272 | 32 => 273 | 33 => 274 | 34 => 275 | 35 => 276 | 40 => 294 | n => n, fun | 23 => 24 | 25 => 3 | 3 => 3 | 32 => 244 | 22 => 24 | 0 => 0 | 44 => 301 | 46 => 22 | 4 => 4 | 36 => 293 | 35 => 292 | 41 => 298 | 5 => 5 | 9 => 9 | 53 => 316 | 57 => 319 | 63 => 335 | 64 => 336 | n => n, fun | n => n⟩
theorem Tryz.sort196 : Go.Proofs.SlLaysM.n5 Tryz.prog Tryz.sort196_ren := {
  mixed := by kernel_rfl
  f5 := ⟨Tryz.f196.name, by decide, Tryz.func196.trans (congrArg some (by kernel_rfl))⟩
  f7 := ⟨Tryz.f226.name, by decide, Tryz.func226.trans (congrArg some (by kernel_rfl))⟩
  f8 := Tryz.func227.trans (congrArg some (by kernel_rfl))
  f10 := ⟨Tryz.f243.name, by decide, Tryz.func243.trans (congrArg some (by kernel_rfl))⟩
  f11 := ⟨Tryz.f244.name, by decide, Tryz.func244.trans (congrArg some (by kernel_rfl))⟩
  f12 := ⟨Tryz.f245.name, by decide, Tryz.func245.trans (congrArg some (by kernel_rfl))⟩
  f13 := ⟨Tryz.f246.name, by decide, Tryz.func246.trans (congrArg some (by kernel_rfl))⟩
  f14 := ⟨Tryz.f247.name, by decide, Tryz.func247.trans (congrArg some (by kernel_rfl))⟩
  f15 := ⟨Tryz.f248.name, by decide, Tryz.func248.trans (congrArg some (by kernel_rfl))⟩
  f16 := ⟨Tryz.f249.name, by decide, Tryz.func249.trans (congrArg some (by kernel_rfl))⟩
  f17 := ⟨Tryz.f250.name, by decide, Tryz.func250.trans (congrArg some (by kernel_rfl))⟩
  f18 := ⟨Tryz.f251.name, by decide, Tryz.func251.trans (congrArg some (by kernel_rfl))⟩
  f19 := Tryz.func252.trans (congrArg some (by kernel_rfl))
  f20 := Tryz.func253.trans (congrArg some (by kernel_rfl))
  f30 := ⟨Tryz.f271.name, by decide, Tryz.func271.trans (congrArg some (by kernel_rfl))⟩
  f31 := Tryz.func272.trans (congrArg some (by kernel_rfl))
  f32 := Tryz.func273.trans (congrArg some (by kernel_rfl))
  f33 := ⟨Tryz.f274.name, by decide, Tryz.func274.trans (congrArg some (by kernel_rfl))⟩
  f34 := ⟨Tryz.f275.name, by decide, Tryz.func275.trans (congrArg some (by kernel_rfl))⟩
  f35 := ⟨Tryz.f276.name, by decide, Tryz.func276.trans (congrArg some (by kernel_rfl))⟩
  f40 := ⟨Tryz.f294.name, by decide, Tryz.func294.trans (congrArg some (by kernel_rfl))⟩
  t0 := Tryz.underlying0
  a0 := Tryz.isAgg0
  z0 := Tryz.sizeOf0
  v0 := Tryz.zeroValue0
  t3 := Tryz.underlying3
  a3 := Tryz.isAgg3
  z3 := Tryz.sizeOf3
  v3 := Tryz.zeroValue3
  t4 := Tryz.underlying4
  a4 := Tryz.isAgg4
  z4 := Tryz.sizeOf4
  v4 := Tryz.zeroValue4
  t5 := Tryz.underlying5
  a5 := Tryz.isAgg5
  z5 := Tryz.sizeOf5
  v5 := Tryz.zeroValue5
  t9 := Tryz.underlying9
  a9 := Tryz.isAgg9
  z9 := Tryz.sizeOf9
  v9 := Tryz.zeroValue9
  t22 := Tryz.underlying24
  a22 := Tryz.isAgg24
  z22 := Tryz.sizeOf24
  v22 := Tryz.zeroValue24
  t23 := Tryz.underlying24
  a23 := Tryz.isAgg24
  z23 := Tryz.sizeOf24
  v23 := Tryz.zeroValue24
  t25 := Tryz.underlying3
  a25 := Tryz.isAgg3
  z25 := Tryz.sizeOf3
  v25 := Tryz.zeroValue3
  t32 := Tryz.underlying244
  a32 := Tryz.isAgg244
  z32 := Tryz.sizeOf244
  v32 := Tryz.zeroValue244
  t35 := Tryz.underlying292
  a35 := Tryz.isAgg292
  z35 := Tryz.sizeOf292
  v35 := Tryz.zeroValue292
  t36 := Tryz.underlying293
  a36 := Tryz.isAgg293
  z36 := Tryz.sizeOf293
  v36 := Tryz.zeroValue293
  t41 := Tryz.underlying298
  a41 := Tryz.isAgg298
  z41 := Tryz.sizeOf298
  v41 := Tryz.zeroValue298
  t44 := Tryz.underlying301
  a44 := Tryz.isAgg301
  z44 := Tryz.sizeOf301
  v44 := Tryz.zeroValue301
  t46 := Tryz.underlying22
  a46 := Tryz.isAgg22
  z46 := Tryz.sizeOf22
  v46 := Tryz.zeroValue22
  t53 := Tryz.underlying316
  a53 := Tryz.isAgg316
  z53 := Tryz.sizeOf316
  v53 := Tryz.zeroValue316
  t57 := Tryz.underlying319
  a57 := Tryz.isAgg319
  z57 := Tryz.sizeOf319
  v57 := Tryz.zeroValue319
  t63 := Tryz.underlying335
  a63 := Tryz.isAgg335
  z63 := Tryz.sizeOf335
  v63 := Tryz.zeroValue335
  t64 := Tryz.underlying336
  a64 := Tryz.isAgg336
  z64 := Tryz.sizeOf336
  v64 := Tryz.zeroValue336 }
set_option maxHeartbeats 1000000 in
open Go.RowKit Go.Maps Go.Sort in
theorem Tryz.sorts146 (m : Nat) : AnyZI.SortsIn Tryz.prog Tryz.sorted146_ren Fence.wide m :=
  ⟨fun blk off cap ss W hH hblk hsz => callsIn_wide.2 (AnyM.slices_Sort_int Tryz.sort196 blk off cap ss W hH hblk hsz),
   fun p cap W => callsIn_wide.2 (AnyM.slices_Sort_int_none Tryz.sort196 p cap W)⟩
end Go.Proofs
