/- For scbodies_law_holds. -/
import Derived.JoinedOf
import Derived.Test.YtgeihgombjbkbaaGreatRows
import Derived.Test.YtgeihgombjbkbaaGreatSbb40
namespace Go.Proofs.YtgeihgombjbkbaaGreat
open Go Go.Proofs.Rn

theorem shk:10<=Tryz.prog.types.size:=Nat.le_of_ble_eq_true (by kernel_rfl)
theorem sh0:mF Tryz.prog 10 22=true:=by kernel_rfl
theorem rd0:Tryz.prog.readableRec 22=true:=by rw[xW shk sh0];kernel_rfl
theorem lp0:Tryz.prog.loopsFrom 22=false:=by rw[xO shk sh0];kernel_rfl
theorem mp0:Tryz.prog.mapsRec 22=false:=by unfold Program.mapsRec;rw[any_eq shk sh0];kernel_rfl
theorem fc0:Tryz.prog.ifacesRec 22=false:=by unfold Program.ifacesRec;rw[any_eq shk sh0];kernel_rfl
theorem wk0:Tryz.prog.wideKeysFrom 22=false:=by unfold Program.wideKeysFrom;rw[any_eq shk sh0];kernel_rfl
theorem vl0:Tryz.prog.veiledRec 22=false:=by unfold Program.veiledRec;rw[any_eq shk sh0];kernel_rfl
theorem vo0:Tryz.prog.veiledOwn 22=true:=by unfold Program.veiledOwn;rw[vl0];rfl
theorem sh1:mF Tryz.prog 10 4=true:=by kernel_rfl
theorem rd1:Tryz.prog.readableRec 4=true:=by rw[xW shk sh1];kernel_rfl
theorem lp1:Tryz.prog.loopsFrom 4=false:=by rw[xO shk sh1];kernel_rfl
theorem fc1:Tryz.prog.ifacesRec 4=false:=by unfold Program.ifacesRec;rw[any_eq shk sh1];kernel_rfl
theorem wk1:Tryz.prog.wideKeysFrom 4=false:=by unfold Program.wideKeysFrom;rw[any_eq shk sh1];kernel_rfl
theorem vl1:Tryz.prog.veiledRec 4=false:=by unfold Program.veiledRec;rw[any_eq shk sh1];kernel_rfl
theorem vo1:Tryz.prog.veiledOwn 4=true:=by unfold Program.veiledOwn;rw[vl1];rfl
theorem plL:(Tryz.f4.params.toList++Rows.scriptBodiesSpec.plain.varTypes Tryz.prog) = [22,22]:=by kernel_rfl
theorem prL:(Tryz.f4.params.toList++Rows.scriptBodiesSpec.plain.varTypes Tryz.prog++Tryz.f4.resultTypes.toList) = [22,22,4]:=by kernel_rfl
theorem rsL:Tryz.f4.resultTypes.toList = [4]:=by kernel_rfl
theorem yR:Tryz.f4.params.all (Tryz.prog.readableRec ·)=true:=by
 rw[<- Array.all_toList,show Tryz.f4.params.toList = [22,22] by kernel_rfl];simp only[List.all_cons,List.all_nil,rd0,Bool.and_self]
theorem aJw:(Rows.scriptBodiesRow.maps==(Tryz.f4.params.toList++Rows.scriptBodiesSpec.plain.varTypes Tryz.prog).any (Tryz.prog.mapsRec ·))=true:=by
 rw[plL];simp only[List.any_cons,List.any_nil,mp0,Bool.or_self]
 kernel_rfl
theorem yP:(Rows.scriptBodiesRow.ifaces==(Tryz.f4.params.toList++Rows.scriptBodiesSpec.plain.varTypes Tryz.prog).any (Tryz.prog.ifacesRec ·))=true:=by
 rw[plL];simp only[List.any_cons,List.any_nil,fc0,Bool.or_self]
 kernel_rfl
theorem aAD:(Rows.scriptBodiesRow.loops==(Tryz.f4.params.toList++Rows.scriptBodiesSpec.plain.varTypes Tryz.prog).any (Tryz.prog.loopsFrom ·))=true:=by
 rw[plL];simp only[List.any_cons,List.any_nil,lp0,Bool.or_self]
 kernel_rfl
theorem tR:(Rows.scriptBodiesRow.wideKeys==(Tryz.f4.params.toList++Rows.scriptBodiesSpec.plain.varTypes Tryz.prog++Tryz.f4.resultTypes.toList).any (Tryz.prog.wideKeysFrom ·))=true:=by
 rw[prL];simp only[List.any_cons,List.any_nil,wk0,wk1,Bool.or_self]
 kernel_rfl
theorem rW:(Rows.scriptBodiesRow.ifacesOut==Tryz.f4.resultTypes.toList.any (Tryz.prog.ifacesRec ·))=true:=by
 rw[rsL];simp only[List.any_cons,List.any_nil,fc1,Bool.or_self]
 kernel_rfl
theorem tO:(Rows.scriptBodiesRow.loopsOut==Tryz.f4.resultTypes.toList.any (Tryz.prog.loopsFrom ·))=true:=by
 rw[rsL];simp only[List.any_cons,List.any_nil,lp1,Bool.or_self]
 kernel_rfl
theorem yT:(Rows.scriptBodiesRow.veiled==(Tryz.f4.params.toList++Rows.scriptBodiesSpec.plain.varTypes Tryz.prog++Tryz.f4.resultTypes.toList).any (Tryz.prog.veiledRec ·))=true:=by
 rw[prL];simp only[List.any_cons,List.any_nil,vl0,vl1,Bool.or_self]
 kernel_rfl
theorem yS:Tryz.f4.resultTypes.all (fun t=>Tryz.prog.readableRec t&&decide (t<Tryz.prog.types.size))=true:=by
 rw[<- Array.all_toList,rsL];simp only[List.all_cons,List.all_nil,rd1,Bool.true_and,Bool.and_true];exact decide_eq_true (Nat.lt_of_lt_of_le (by decide) shk)
theorem aJu:Rows.scriptBodiesRow.veiledFits Tryz.prog Tryz.f4.params.toList (Tryz.f4.params.toList++Rows.scriptBodiesSpec.plain.varTypes Tryz.prog++Tryz.f4.resultTypes.toList)=true:=by
 unfold OpenClaim.veiledFits;rw[prL,show Rows.scriptBodiesRow.start = .entering from rfl,show (Rows.scriptBodiesRow.laid.filterMap fun x=>(Tryz.prog.globalNamed x.1).bind fun g=>(Tryz.prog.globals[g]?).map (·.type)) = [] by kernel_rfl]
 simp only[List.append_nil,List.all_cons,List.all_nil,vo0,vo1,Bool.and_self,Bool.true_or]
