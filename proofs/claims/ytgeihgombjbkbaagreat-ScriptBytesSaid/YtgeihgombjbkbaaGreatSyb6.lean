/- For scbytes_law_holds. -/
import Derived.Shelf.SlGeneric
import Derived.Shelf.SlIter.Nil
import Derived.Shelf.SortM.Plain
import Derived.Shelf.SortM.SortNone
import Derived.Ground.GgzProg
import Derived.Ground.SlgmProg
import Derived.Test.YtgeihgombjbkbaaGreatProg
set_option maxHeartbeats 16000000
namespace Go.Proofs
open Go.Shelf
def Tryz.keys371_ren:Go.Shelf.Ren:=⟨fun | 7=>371 | 10=>458|n=>n,fun | 23=>340 | 26=>9 | 3=>470 | 28=>599 | 0=>0 | 27=>598 | 33=>702 | 4=>4|n=>n,fun|n=>n⟩
theorem Tryz.keys371:Go.Proofs.SlLaysZ.n7 Tryz.prog Tryz.keys371_ren:={
 mixed:=by kernel_rfl
 f7:=⟨Tryz.f371.name,by decide,Tryz.func371.trans (congrArg some (by kernel_rfl))⟩
 f10:=⟨Tryz.f458.name,by decide,Tryz.func458.trans (congrArg some (by kernel_rfl))⟩
 t0:=Tryz.underlying0
 a0:=Tryz.isAgg0
 z0:=Tryz.sizeOf0
 v0:=Tryz.zeroValue0
 t4:=Tryz.underlying4
 a4:=Tryz.isAgg4
 z4:=Tryz.sizeOf4
 v4:=Tryz.zeroValue4
 t23:=Tryz.underlying340
 a23:=Tryz.isAgg340
 z23:=Tryz.sizeOf340
 v23:=Tryz.zeroValue340
 t26:=Tryz.underlying9
 a26:=Tryz.isAgg9
 z26:=Tryz.sizeOf9
 v26:=Tryz.zeroValue9
 t27:=Tryz.underlying598
 a27:=Tryz.isAgg598
 z27:=Tryz.sizeOf598
 v27:=Tryz.zeroValue598
 t28:=Tryz.underlying599
 a28:=Tryz.isAgg599
 z28:=Tryz.sizeOf599
 v28:=Tryz.zeroValue599
 t33:=Tryz.underlying702
 a33:=Tryz.isAgg702
 z33:=Tryz.sizeOf702
 v33:=Tryz.zeroValue702 }
def Tryz.sorted370_ren:Go.Shelf.Ren:=⟨fun | 6=>370 | 8=>456 | 9=>457 | 11=>530 | 13=>532 | 12=>531 | 23=>611 | 24=>612 | 14=>602 | 15=>603 | 16=>604 | 17=>605 | 18=>606 | 19=>607 | 20=>608 | 21=>609 | 22=>610 | 25=>671 | 26=>672 | 27=>673 | 28=>674 | 29=>675 | 30=>676 | 31=>725|n=>n,fun | 26=>9 | 28=>599 | 24=>467 | 0=>0 | 3=>3 | 37=>169 | 48=>110 | 50=>50 | 4=>4 | 40=>810 | 39=>809 | 45=>412 | 5=>5 | 9=>9 | 51=>861 | 55=>61 | 57=>897 | 58=>771 | 33=>702|n=>n,fun|n=>n⟩
theorem Tryz.sorted370:Go.Proofs.SlLaysZ.n6 Tryz.prog Tryz.sorted370_ren:={
 mixed:=by kernel_rfl
 f6:=⟨Tryz.f370.name,by decide,Tryz.func370.trans (congrArg some (by kernel_rfl))⟩
 f8:=⟨Tryz.f456.name,by decide,Tryz.func456.trans (congrArg some (by kernel_rfl))⟩
 f11:=⟨Tryz.f530.name,by decide,Tryz.func530.trans (congrArg some (by kernel_rfl))⟩
 t0:=Tryz.underlying0
 a0:=Tryz.isAgg0
 z0:=Tryz.sizeOf0
 v0:=Tryz.zeroValue0
 t24:=Tryz.underlying467
 a24:=Tryz.isAgg467
 z24:=Tryz.sizeOf467
 v24:=Tryz.zeroValue467
 t26:=Tryz.underlying9
 a26:=Tryz.isAgg9
 z26:=Tryz.sizeOf9
 v26:=Tryz.zeroValue9
 t28:=Tryz.underlying599
 a28:=Tryz.isAgg599
 z28:=Tryz.sizeOf599
 v28:=Tryz.zeroValue599
 i26:=by kernel_rfl }
def Tryz.sort457_ren:Go.Shelf.Ren:=⟨fun | 6=>457 | 8=>532 | 9=>531 | 19=>611 | 20=>612 | 21=>602 | 22=>603 | 23=>604 | 24=>605 | 25=>606 | 26=>607 | 27=>608 | 28=>609 | 29=>610 | 36=>671 | 31=>672 | 32=>673 | 37=>674 | 38=>675 | 39=>676 | 41=>725|n=>n,fun | 27=>467 | 29=>9 | 3=>3 | 32=>169 | 26=>467 | 0=>0 | 44=>110 | 46=>50 | 4=>4 | 36=>810 | 35=>809 | 41=>412 | 5=>5 | 9=>9 | 53=>861 | 57=>61 | 63=>897 | 64=>771|n=>n,fun|n=>n⟩
theorem Tryz.sort457:Go.Proofs.SlLaysM.n6 Tryz.prog Tryz.sort457_ren:={
 mixed:=by kernel_rfl
 f6:=⟨Tryz.f457.name,by decide,Tryz.func457.trans (congrArg some (by kernel_rfl))⟩
 f8:=Tryz.func532.trans (congrArg some (by kernel_rfl))
 f9:=⟨Tryz.f531.name,by decide,Tryz.func531.trans (congrArg some (by kernel_rfl))⟩
 f19:=Tryz.func611.trans (congrArg some (by kernel_rfl))
 f20:=Tryz.func612.trans (congrArg some (by kernel_rfl))
 f21:=⟨Tryz.f602.name,by decide,Tryz.func602.trans (congrArg some (by kernel_rfl))⟩
 f22:=⟨Tryz.f603.name,by decide,Tryz.func603.trans (congrArg some (by kernel_rfl))⟩
 f23:=⟨Tryz.f604.name,by decide,Tryz.func604.trans (congrArg some (by kernel_rfl))⟩
 f24:=⟨Tryz.f605.name,by decide,Tryz.func605.trans (congrArg some (by kernel_rfl))⟩
 f25:=⟨Tryz.f606.name,by decide,Tryz.func606.trans (congrArg some (by kernel_rfl))⟩
 f26:=⟨Tryz.f607.name,by decide,Tryz.func607.trans (congrArg some (by kernel_rfl))⟩
 f27:=⟨Tryz.f608.name,by decide,Tryz.func608.trans (congrArg some (by kernel_rfl))⟩
 f28:=⟨Tryz.f609.name,by decide,Tryz.func609.trans (congrArg some (by kernel_rfl))⟩
 f29:=⟨Tryz.f610.name,by decide,Tryz.func610.trans (congrArg some (by kernel_rfl))⟩
 f31:=Tryz.func672.trans (congrArg some (by kernel_rfl))
 f32:=Tryz.func673.trans (congrArg some (by kernel_rfl))
 f36:=⟨Tryz.f671.name,by decide,Tryz.func671.trans (congrArg some (by kernel_rfl))⟩
 f37:=⟨Tryz.f674.name,by decide,Tryz.func674.trans (congrArg some (by kernel_rfl))⟩
 f38:=⟨Tryz.f675.name,by decide,Tryz.func675.trans (congrArg some (by kernel_rfl))⟩
 f39:=⟨Tryz.f676.name,by decide,Tryz.func676.trans (congrArg some (by kernel_rfl))⟩
 f41:=⟨Tryz.f725.name,by decide,Tryz.func725.trans (congrArg some (by kernel_rfl))⟩
 t0:=Tryz.underlying0
 a0:=Tryz.isAgg0
 z0:=Tryz.sizeOf0
 v0:=Tryz.zeroValue0
 t3:=Tryz.underlying3
 a3:=Tryz.isAgg3
 z3:=Tryz.sizeOf3
 v3:=Tryz.zeroValue3
 t4:=Tryz.underlying4
 a4:=Tryz.isAgg4
 z4:=Tryz.sizeOf4
 v4:=Tryz.zeroValue4
 t5:=Tryz.underlying5
 a5:=Tryz.isAgg5
 z5:=Tryz.sizeOf5
 v5:=Tryz.zeroValue5
 t9:=Tryz.underlying9
 a9:=Tryz.isAgg9
 z9:=Tryz.sizeOf9
 v9:=Tryz.zeroValue9
 t26:=Tryz.underlying467
 a26:=Tryz.isAgg467
 z26:=Tryz.sizeOf467
 v26:=Tryz.zeroValue467
 t27:=Tryz.underlying467
 a27:=Tryz.isAgg467
 z27:=Tryz.sizeOf467
 v27:=Tryz.zeroValue467
 t29:=Tryz.underlying9
 a29:=Tryz.isAgg9
 z29:=Tryz.sizeOf9
 v29:=Tryz.zeroValue9
 t32:=Tryz.underlying169
 a32:=Tryz.isAgg169
 z32:=Tryz.sizeOf169
 v32:=Tryz.zeroValue169
 t35:=Tryz.underlying809
 a35:=Tryz.isAgg809
 z35:=Tryz.sizeOf809
 v35:=Tryz.zeroValue809
 t36:=Tryz.underlying810
 a36:=Tryz.isAgg810
 z36:=Tryz.sizeOf810
 v36:=Tryz.zeroValue810
 t41:=Tryz.underlying412
 a41:=Tryz.isAgg412
 z41:=Tryz.sizeOf412
 v41:=Tryz.zeroValue412
 t44:=Tryz.underlying110
 a44:=Tryz.isAgg110
 z44:=Tryz.sizeOf110
 v44:=Tryz.zeroValue110
 t46:=Tryz.underlying50
 a46:=Tryz.isAgg50
 z46:=Tryz.sizeOf50
 v46:=Tryz.zeroValue50
 t53:=Tryz.underlying861
 a53:=Tryz.isAgg861
 z53:=Tryz.sizeOf861
 v53:=Tryz.zeroValue861
 t57:=Tryz.underlying61
 a57:=Tryz.isAgg61
 z57:=Tryz.sizeOf61
 v57:=Tryz.zeroValue61
 t63:=Tryz.underlying897
 a63:=Tryz.isAgg897
 z63:=Tryz.sizeOf897
 v63:=Tryz.zeroValue897
 t64:=Tryz.underlying771
 a64:=Tryz.isAgg771
 z64:=Tryz.sizeOf771
 v64:=Tryz.zeroValue771 }
open Go.RowKit Go.Maps Go.Sort in
theorem Tryz.sorts370 (m:Nat):AnyZ.SortsIn Tryz.prog Tryz.sorted370_ren Fence.wide m :=
 ⟨fun blk off cap ss W hH hblk hsz => callsIn_wide.2 (AnyM.slices_Sort_string Tryz.sort457 blk off cap ss W hH hblk hsz),
  fun p cap W=>callsIn_wide.2 (AnyM.slices_Sort_string_none Tryz.sort457 p cap W)⟩
end Go.Proofs
