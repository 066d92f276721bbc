/- For screads_law_holds. -/
import Derived.JoinedOf
import Derived.Test.YtgeihgombjbkbaaGreatRows
import Derived.Test.YtgeihgombjbkbaaGreatSrb41
namespace Go.Proofs.YtgeihgombjbkbaaGreat
open Go Go.Proofs.Rn

theorem shk:10<=Tryz.prog.types.size:=Nat.le_of_ble_eq_true (by kernel_rfl)
theorem sh0:shutAll Tryz.prog 10 22=true:=by kernel_rfl
theorem rd0:Tryz.prog.readableRec 22=true:=by rw[read_eq shk sh0];kernel_rfl
theorem lp0:Tryz.prog.loopsFrom 22=false:=by rw[loop_eq shk sh0];kernel_rfl
theorem mp0:Tryz.prog.mapsRec 22=false:=by unfold Program.mapsRec;rw[any_eq shk sh0];kernel_rfl
theorem fc0:Tryz.prog.ifacesRec 22=false:=by unfold Program.ifacesRec;rw[any_eq shk sh0];kernel_rfl
theorem wk0:Tryz.prog.wideKeysFrom 22=false:=by unfold Program.wideKeysFrom;rw[any_eq shk sh0];kernel_rfl
theorem vl0:Tryz.prog.veiledRec 22=false:=by unfold Program.veiledRec;rw[any_eq shk sh0];kernel_rfl
theorem vo0:Tryz.prog.veiledOwn 22=true:=by unfold Program.veiledOwn;rw[vl0];rfl
theorem sh1:shutAll Tryz.prog 10 4=true:=by kernel_rfl
theorem rd1:Tryz.prog.readableRec 4=true:=by rw[read_eq shk sh1];kernel_rfl
theorem lp1:Tryz.prog.loopsFrom 4=false:=by rw[loop_eq shk sh1];kernel_rfl
theorem fc1:Tryz.prog.ifacesRec 4=false:=by unfold Program.ifacesRec;rw[any_eq shk sh1];kernel_rfl
theorem wk1:Tryz.prog.wideKeysFrom 4=false:=by unfold Program.wideKeysFrom;rw[any_eq shk sh1];kernel_rfl
theorem vl1:Tryz.prog.veiledRec 4=false:=by unfold Program.veiledRec;rw[any_eq shk sh1];kernel_rfl
theorem vo1:Tryz.prog.veiledOwn 4=true:=by unfold Program.veiledOwn;rw[vl1];rfl
theorem plL:(Tryz.f3.params.toList++Rows.scriptReadsSpec.plain.varTypes Tryz.prog) = [22]:=by kernel_rfl
theorem prL:(Tryz.f3.params.toList++Rows.scriptReadsSpec.plain.varTypes Tryz.prog++Tryz.f3.resultTypes.toList) = [22,4]:=by kernel_rfl
theorem rsL:Tryz.f3.resultTypes.toList = [4]:=by kernel_rfl
theorem wI:Tryz.f3.params.all (Tryz.prog.readableRec ·)=true:=by
 rw[<- Array.all_toList,show Tryz.f3.params.toList = [22] by kernel_rfl];simp only[List.all_cons,List.all_nil,rd0,Bool.and_self]
theorem aIq:(Rows.scriptReadsRow.maps==(Tryz.f3.params.toList++Rows.scriptReadsSpec.plain.varTypes Tryz.prog).any (Tryz.prog.mapsRec ·))=true:=by
 rw[plL];simp only[List.any_cons,List.any_nil,mp0,Bool.or_self]
 kernel_rfl
theorem wG:(Rows.scriptReadsRow.ifaces==(Tryz.f3.params.toList++Rows.scriptReadsSpec.plain.varTypes Tryz.prog).any (Tryz.prog.ifacesRec ·))=true:=by
 rw[plL];simp only[List.any_cons,List.any_nil,fc0,Bool.or_self]
 kernel_rfl
theorem yU:(Rows.scriptReadsRow.loops==(Tryz.f3.params.toList++Rows.scriptReadsSpec.plain.varTypes Tryz.prog).any (Tryz.prog.loopsFrom ·))=true:=by
 rw[plL];simp only[List.any_cons,List.any_nil,lp0,Bool.or_self]
 kernel_rfl
theorem rT:(Rows.scriptReadsRow.wideKeys==(Tryz.f3.params.toList++Rows.scriptReadsSpec.plain.varTypes Tryz.prog++Tryz.f3.resultTypes.toList).any (Tryz.prog.wideKeysFrom ·))=true:=by
 rw[prL];simp only[List.any_cons,List.any_nil,wk0,wk1,Bool.or_self]
 kernel_rfl
theorem qK:(Rows.scriptReadsRow.ifacesOut==Tryz.f3.resultTypes.toList.any (Tryz.prog.ifacesRec ·))=true:=by
 rw[rsL];simp only[List.any_cons,List.any_nil,fc1,Bool.or_self]
 kernel_rfl
theorem rQ:(Rows.scriptReadsRow.loopsOut==Tryz.f3.resultTypes.toList.any (Tryz.prog.loopsFrom ·))=true:=by
 rw[rsL];simp only[List.any_cons,List.any_nil,lp1,Bool.or_self]
 kernel_rfl
theorem wK:(Rows.scriptReadsRow.veiled==(Tryz.f3.params.toList++Rows.scriptReadsSpec.plain.varTypes Tryz.prog++Tryz.f3.resultTypes.toList).any (Tryz.prog.veiledRec ·))=true:=by
 rw[prL];simp only[List.any_cons,List.any_nil,vl0,vl1,Bool.or_self]
 kernel_rfl
theorem wJ:Tryz.f3.resultTypes.all (fun t=>Tryz.prog.readableRec t&&decide (t<Tryz.prog.types.size))=true:=by
 rw[<- Array.all_toList,rsL];simp only[List.all_cons,List.all_nil,rd1,Bool.true_and,Bool.and_true];exact decide_eq_true (Nat.lt_of_lt_of_le (by decide) shk)
theorem aIo:Rows.scriptReadsRow.veiledFits Tryz.prog Tryz.f3.params.toList (Tryz.f3.params.toList++Rows.scriptReadsSpec.plain.varTypes Tryz.prog++Tryz.f3.resultTypes.toList)=true:=by
 unfold OpenClaim.veiledFits;rw[prL,show Rows.scriptReadsRow.start = .entering from rfl,show (Rows.scriptReadsRow.laid.filterMap fun x=>(Tryz.prog.globalNamed x.1).bind fun g=>(Tryz.prog.globals[g]?).map (·.type)) = [] by kernel_rfl]
 simp only[List.append_nil,List.all_cons,List.all_nil,vo0,vo1,Bool.and_self,Bool.true_or]
