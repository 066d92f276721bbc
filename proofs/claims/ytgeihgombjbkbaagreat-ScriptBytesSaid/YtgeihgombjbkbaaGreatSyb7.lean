/- For scbytes_law_holds. -/
import Derived.Shelf.SlGeneric
import Derived.Shelf.SlIterI.Nil
import Derived.Shelf.SortM.Plain
import Derived.Shelf.SortM.SortNone
import Derived.Ground.GgzProg
import Derived.Ground.SlgmProg
import Derived.Test.YtgeihgombjbkbaaGreatProg
set_option maxHeartbeats 16000000
namespace Go.Proofs
open Go.Shelf
def Tryz.keys596_ren:Go.Shelf.Ren:=⟨fun | 7=>596 | 10=>666|n=>n,fun | 23=>705 | 26=>3 | 3=>699 | 28=>801 | 0=>0 | 27=>800 | 33=>284 | 4=>4|n=>n,fun|n=>n⟩
theorem Tryz.keys596:Go.Proofs.SlLaysZI.n7 Tryz.prog Tryz.keys596_ren:={
 mixed:=by kernel_rfl
 f7:=⟨Tryz.f596.name,by decide,Tryz.func596.trans (congrArg some (by kernel_rfl))⟩
 f10:=⟨Tryz.f666.name,by decide,Tryz.func666.trans (congrArg some (by kernel_rfl))⟩
 t0:=Tryz.underlying0
 a0:=Tryz.isAgg0
 z0:=Tryz.sizeOf0
 v0:=Tryz.zeroValue0
 t4:=Tryz.underlying4
 a4:=Tryz.isAgg4
 z4:=Tryz.sizeOf4
 v4:=Tryz.zeroValue4
 t23:=Tryz.underlying705
 a23:=Tryz.isAgg705
 z23:=Tryz.sizeOf705
 v23:=Tryz.zeroValue705
 t26:=Tryz.underlying3
 a26:=Tryz.isAgg3
 z26:=Tryz.sizeOf3
 v26:=Tryz.zeroValue3
 t27:=Tryz.underlying800
 a27:=Tryz.isAgg800
 z27:=Tryz.sizeOf800
 v27:=Tryz.zeroValue800
 t28:=Tryz.underlying801
 a28:=Tryz.isAgg801
 z28:=Tryz.sizeOf801
 v28:=Tryz.zeroValue801
 t33:=Tryz.underlying284
 a33:=Tryz.isAgg284
 z33:=Tryz.sizeOf284
 v33:=Tryz.zeroValue284 }
def Tryz.sorted595_ren:Go.Shelf.Ren:=⟨fun | 6=>595 | 8=>664 | 9=>665 | 11=>720 | 13=>532 | 12=>721 | 23=>611 | 24=>612 | 14=>737 | 15=>738 | 16=>739 | 17=>740 | 18=>741 | 19=>742 | 20=>743 | 21=>744 | 22=>745 | 25=>769 | 26=>672 | 27=>673 | 28=>770 | 29=>771 | 30=>772 | 31=>786|n=>n,fun | 26=>3 | 28=>801 | 24=>93 | 0=>0 | 3=>3 | 37=>169 | 48=>110 | 50=>50 | 4=>4 | 40=>810 | 39=>809 | 45=>412 | 5=>5 | 9=>9 | 51=>861 | 55=>61 | 57=>897 | 58=>771 | 33=>284|n=>n,fun|n=>n⟩
theorem Tryz.sorted595:Go.Proofs.SlLaysZI.n6 Tryz.prog Tryz.sorted595_ren:={
 mixed:=by kernel_rfl
 f6:=⟨Tryz.f595.name,by decide,Tryz.func595.trans (congrArg some (by kernel_rfl))⟩
 f8:=⟨Tryz.f664.name,by decide,Tryz.func664.trans (congrArg some (by kernel_rfl))⟩
 f11:=⟨Tryz.f720.name,by decide,Tryz.func720.trans (congrArg some (by kernel_rfl))⟩
 t0:=Tryz.underlying0
 a0:=Tryz.isAgg0
 z0:=Tryz.sizeOf0
 v0:=Tryz.zeroValue0
 t24:=Tryz.underlying93
 a24:=Tryz.isAgg93
 z24:=Tryz.sizeOf93
 v24:=Tryz.zeroValue93
 t26:=Tryz.underlying3
 a26:=Tryz.isAgg3
 z26:=Tryz.sizeOf3
 v26:=Tryz.zeroValue3
 t28:=Tryz.underlying801
 a28:=Tryz.isAgg801
 z28:=Tryz.sizeOf801
 v28:=Tryz.zeroValue801
 i26:=by kernel_rfl }
def Tryz.sort665_ren:Go.Shelf.Ren:=⟨fun | 5=>665 | 8=>532 | 7=>721 | 19=>611 | 20=>612 | 10=>737 | 11=>738 | 12=>739 | 13=>740 | 14=>741 | 15=>742 | 16=>743 | 17=>744 | 18=>745 | 30=>769 | 31=>672 | 32=>673 | 33=>770 | 34=>771 | 35=>772 | 40=>786|n=>n,fun | 23=>93 | 25=>3 | 3=>3 | 32=>169 | 22=>93 | 0=>0 | 44=>110 | 46=>50 | 4=>4 | 36=>810 | 35=>809 | 41=>412 | 5=>5 | 9=>9 | 53=>861 | 57=>61 | 63=>897 | 64=>771|n=>n,fun|n=>n⟩
theorem Tryz.sort665:Go.Proofs.SlLaysM.n5 Tryz.prog Tryz.sort665_ren:={
 mixed:=by kernel_rfl
 f5:=⟨Tryz.f665.name,by decide,Tryz.func665.trans (congrArg some (by kernel_rfl))⟩
 f7:=⟨Tryz.f721.name,by decide,Tryz.func721.trans (congrArg some (by kernel_rfl))⟩
 f8:=Tryz.func532.trans (congrArg some (by kernel_rfl))
 f10:=⟨Tryz.f737.name,by decide,Tryz.func737.trans (congrArg some (by kernel_rfl))⟩
 f11:=⟨Tryz.f738.name,by decide,Tryz.func738.trans (congrArg some (by kernel_rfl))⟩
 f12:=⟨Tryz.f739.name,by decide,Tryz.func739.trans (congrArg some (by kernel_rfl))⟩
 f13:=⟨Tryz.f740.name,by decide,Tryz.func740.trans (congrArg some (by kernel_rfl))⟩
 f14:=⟨Tryz.f741.name,by decide,Tryz.func741.trans (congrArg some (by kernel_rfl))⟩
 f15:=⟨Tryz.f742.name,by decide,Tryz.func742.trans (congrArg some (by kernel_rfl))⟩
 f16:=⟨Tryz.f743.name,by decide,Tryz.func743.trans (congrArg some (by kernel_rfl))⟩
 f17:=⟨Tryz.f744.name,by decide,Tryz.func744.trans (congrArg some (by kernel_rfl))⟩
 f18:=⟨Tryz.f745.name,by decide,Tryz.func745.trans (congrArg some (by kernel_rfl))⟩
 f19:=Tryz.func611.trans (congrArg some (by kernel_rfl))
 f20:=Tryz.func612.trans (congrArg some (by kernel_rfl))
 f30:=⟨Tryz.f769.name,by decide,Tryz.func769.trans (congrArg some (by kernel_rfl))⟩
 f31:=Tryz.func672.trans (congrArg some (by kernel_rfl))
 f32:=Tryz.func673.trans (congrArg some (by kernel_rfl))
 f33:=⟨Tryz.f770.name,by decide,Tryz.func770.trans (congrArg some (by kernel_rfl))⟩
 f34:=⟨Tryz.f771.name,by decide,Tryz.func771.trans (congrArg some (by kernel_rfl))⟩
 f35:=⟨Tryz.f772.name,by decide,Tryz.func772.trans (congrArg some (by kernel_rfl))⟩
 f40:=⟨Tryz.f786.name,by decide,Tryz.func786.trans (congrArg some (by kernel_rfl))⟩
 t0:=Tryz.underlying0
 a0:=Tryz.isAgg0
 z0:=Tryz.sizeOf0
 v0:=Tryz.zeroValue0
 t3:=Tryz.underlying3
 a3:=Tryz.isAgg3
 z3:=Tryz.sizeOf3
 v3:=Tryz.zeroValue3
 t4:=Tryz.underlying4
 a4:=Tryz.isAgg4
 z4:=Tryz.sizeOf4
 v4:=Tryz.zeroValue4
 t5:=Tryz.underlying5
 a5:=Tryz.isAgg5
 z5:=Tryz.sizeOf5
 v5:=Tryz.zeroValue5
 t9:=Tryz.underlying9
 a9:=Tryz.isAgg9
 z9:=Tryz.sizeOf9
 v9:=Tryz.zeroValue9
 t22:=Tryz.underlying93
 a22:=Tryz.isAgg93
 z22:=Tryz.sizeOf93
 v22:=Tryz.zeroValue93
 t23:=Tryz.underlying93
 a23:=Tryz.isAgg93
 z23:=Tryz.sizeOf93
 v23:=Tryz.zeroValue93
 t25:=Tryz.underlying3
 a25:=Tryz.isAgg3
 z25:=Tryz.sizeOf3
 v25:=Tryz.zeroValue3
 t32:=Tryz.underlying169
 a32:=Tryz.isAgg169
 z32:=Tryz.sizeOf169
 v32:=Tryz.zeroValue169
 t35:=Tryz.underlying809
 a35:=Tryz.isAgg809
 z35:=Tryz.sizeOf809
 v35:=Tryz.zeroValue809
 t36:=Tryz.underlying810
 a36:=Tryz.isAgg810
 z36:=Tryz.sizeOf810
 v36:=Tryz.zeroValue810
 t41:=Tryz.underlying412
 a41:=Tryz.isAgg412
 z41:=Tryz.sizeOf412
 v41:=Tryz.zeroValue412
 t44:=Tryz.underlying110
 a44:=Tryz.isAgg110
 z44:=Tryz.sizeOf110
 v44:=Tryz.zeroValue110
 t46:=Tryz.underlying50
 a46:=Tryz.isAgg50
 z46:=Tryz.sizeOf50
 v46:=Tryz.zeroValue50
 t53:=Tryz.underlying861
 a53:=Tryz.isAgg861
 z53:=Tryz.sizeOf861
 v53:=Tryz.zeroValue861
 t57:=Tryz.underlying61
 a57:=Tryz.isAgg61
 z57:=Tryz.sizeOf61
 v57:=Tryz.zeroValue61
 t63:=Tryz.underlying897
 a63:=Tryz.isAgg897
 z63:=Tryz.sizeOf897
 v63:=Tryz.zeroValue897
 t64:=Tryz.underlying771
 a64:=Tryz.isAgg771
 z64:=Tryz.sizeOf771
 v64:=Tryz.zeroValue771 }
open Go.RowKit Go.Maps Go.Sort in
theorem Tryz.sorts595 (m:Nat):AnyZI.SortsIn Tryz.prog Tryz.sorted595_ren Fence.wide m :=
 ⟨fun blk off cap ss W hH hblk hsz => callsIn_wide.2 (AnyM.slices_Sort_int Tryz.sort665 blk off cap ss W hH hblk hsz),
  fun p cap W=>callsIn_wide.2 (AnyM.slices_Sort_int_none Tryz.sort665 p cap W)⟩
end Go.Proofs
