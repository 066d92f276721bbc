/- For scbytes_law_holds. -/
import Derived.Test.YtgeihgombjbkbaaGreatSyb45
import Derived.Test.YtgeihgombjbkbaaGreatSyb46
import Derived.Test.YtgeihgombjbkbaaGreatSyb4
set_option maxHeartbeats 16000000
set_option maxRecDepth 100000
namespace Go.Proofs.YtgeihgombjbkbaaGreat
open Go Go.Proofs.Rn

theorem shk:10<=Tryz.prog.types.size:=Nat.le_of_ble_eq_true (by kernel_rfl)
theorem sh0:shutAll Tryz.prog 10 28=true:=by kernel_rfl
theorem rd0:Tryz.prog.readableRec 28=true:=by rw[read_eq shk sh0];kernel_rfl
theorem lp0:Tryz.prog.loopsFrom 28=false:=by rw[loop_eq shk sh0];kernel_rfl
theorem mp0:Tryz.prog.mapsRec 28=false:=by unfold Program.mapsRec;rw[any_eq shk sh0];kernel_rfl
theorem fc0:Tryz.prog.ifacesRec 28=false:=by unfold Program.ifacesRec;rw[any_eq shk sh0];kernel_rfl
theorem wk0:Tryz.prog.wideKeysFrom 28=false:=by unfold Program.wideKeysFrom;rw[any_eq shk sh0];kernel_rfl
theorem vl0:Tryz.prog.veiledRec 28=false:=by unfold Program.veiledRec;rw[any_eq shk sh0];kernel_rfl
theorem vo0:Tryz.prog.veiledOwn 28=true:=by unfold Program.veiledOwn;rw[vl0];rfl
theorem sh1:shutAll Tryz.prog 10 4=true:=by kernel_rfl
theorem rd1:Tryz.prog.readableRec 4=true:=by rw[read_eq shk sh1];kernel_rfl
theorem lp1:Tryz.prog.loopsFrom 4=false:=by rw[loop_eq shk sh1];kernel_rfl
theorem fc1:Tryz.prog.ifacesRec 4=false:=by unfold Program.ifacesRec;rw[any_eq shk sh1];kernel_rfl
theorem wk1:Tryz.prog.wideKeysFrom 4=false:=by unfold Program.wideKeysFrom;rw[any_eq shk sh1];kernel_rfl
theorem vl1:Tryz.prog.veiledRec 4=false:=by unfold Program.veiledRec;rw[any_eq shk sh1];kernel_rfl
theorem vo1:Tryz.prog.veiledOwn 4=true:=by unfold Program.veiledOwn;rw[vl1];rfl
theorem plL:(Tryz.f5.params.toList++Rows.scriptBytesSpec.plain.varTypes Tryz.prog) = [28,28]:=by kernel_rfl
theorem prL:(Tryz.f5.params.toList++Rows.scriptBytesSpec.plain.varTypes Tryz.prog++Tryz.f5.resultTypes.toList) = [28,28,4]:=by kernel_rfl
theorem rsL:Tryz.f5.resultTypes.toList = [4]:=by kernel_rfl
theorem xX:Tryz.f5.params.all (Tryz.prog.readableRec ·)=true:=by
 rw[<- Array.all_toList,show Tryz.f5.params.toList = [28,28] by kernel_rfl];simp only[List.all_cons,List.all_nil,rd0,Bool.and_self]
theorem aJp:(Rows.scriptBytesRow.maps==(Tryz.f5.params.toList++Rows.scriptBytesSpec.plain.varTypes Tryz.prog).any (Tryz.prog.mapsRec ·))=true:=by
 rw[plL];simp only[List.any_cons,List.any_nil,mp0,Bool.or_self]
 kernel_rfl
theorem xV:(Rows.scriptBytesRow.ifaces==(Tryz.f5.params.toList++Rows.scriptBytesSpec.plain.varTypes Tryz.prog).any (Tryz.prog.ifacesRec ·))=true:=by
 rw[plL];simp only[List.any_cons,List.any_nil,fc0,Bool.or_self]
 kernel_rfl
theorem aAw:(Rows.scriptBytesRow.loops==(Tryz.f5.params.toList++Rows.scriptBytesSpec.plain.varTypes Tryz.prog).any (Tryz.prog.loopsFrom ·))=true:=by
 rw[plL];simp only[List.any_cons,List.any_nil,lp0,Bool.or_self]
 kernel_rfl
theorem tG:(Rows.scriptBytesRow.wideKeys==(Tryz.f5.params.toList++Rows.scriptBytesSpec.plain.varTypes Tryz.prog++Tryz.f5.resultTypes.toList).any (Tryz.prog.wideKeysFrom ·))=true:=by
 rw[prL];simp only[List.any_cons,List.any_nil,wk0,wk1,Bool.or_self]
 kernel_rfl
theorem rF:(Rows.scriptBytesRow.ifacesOut==Tryz.f5.resultTypes.toList.any (Tryz.prog.ifacesRec ·))=true:=by
 rw[rsL];simp only[List.any_cons,List.any_nil,fc1,Bool.or_self]
 kernel_rfl
theorem tD:(Rows.scriptBytesRow.loopsOut==Tryz.f5.resultTypes.toList.any (Tryz.prog.loopsFrom ·))=true:=by
 rw[rsL];simp only[List.any_cons,List.any_nil,lp1,Bool.or_self]
 kernel_rfl
theorem xZ:(Rows.scriptBytesRow.veiled==(Tryz.f5.params.toList++Rows.scriptBytesSpec.plain.varTypes Tryz.prog++Tryz.f5.resultTypes.toList).any (Tryz.prog.veiledRec ·))=true:=by
 rw[prL];simp only[List.any_cons,List.any_nil,vl0,vl1,Bool.or_self]
 kernel_rfl
theorem xY:Tryz.f5.resultTypes.all (fun t=>Tryz.prog.readableRec t&&decide (t<Tryz.prog.types.size))=true:=by
 rw[<- Array.all_toList,rsL];simp only[List.all_cons,List.all_nil,rd1,Bool.true_and,Bool.and_true];exact decide_eq_true (Nat.lt_of_lt_of_le (by decide) shk)
theorem aJn:Rows.scriptBytesRow.veiledFits Tryz.prog Tryz.f5.params.toList (Tryz.f5.params.toList++Rows.scriptBytesSpec.plain.varTypes Tryz.prog++Tryz.f5.resultTypes.toList)=true:=by
 unfold OpenClaim.veiledFits;rw[prL,show Rows.scriptBytesRow.start = .entering from rfl,show (Rows.scriptBytesRow.laid.filterMap fun x=>(Tryz.prog.globalNamed x.1).bind fun g=>(Tryz.prog.globals[g]?).map (·.type)) = [] by kernel_rfl]
 simp only[List.append_nil,List.all_cons,List.all_nil,vo0,vo1,Bool.and_self,Bool.true_or]

theorem cT {a b:Bool}(h:a=true)(k:b=true):(a&&b)=true:=by rw[h,k];rfl
theorem aMm:Rows.scriptBytesRow.wf (OpenSpec.ofChange Rows.scriptBytesSpec)=true:=by kernel_rfl
theorem rG:mapsRowed Tryz.prog=true:=by kernel_rfl
theorem rH:(Rows.scriptBytesRow.plainKeys==Tryz.prog.plainKeys)=true:=by kernel_rfl
theorem closed:joinedFacts Tryz.prog 5 Tryz.f5 Rows.scriptBytesSpec Rows.scriptBytesRow=true:=by
 unfold joinedFacts;exact cT (cT (cT (cT (cT (cT (cT (cT (cT (cT (cT (cT (cT (cT (cT (cT (cT (cT (cT (cT (cT (cT (cT (cT (cT (cT (cT (cT (cT (cT (cT (aMm) laid) rG) xX) (by kernel_rfl)) (by kernel_rfl)) (by kernel_rfl)) (by kernel_rfl)) (by kernel_rfl)) vQ) pJ) tF) aAx) aJp) xV) (by kernel_rfl)) aAw) tG) (by kernel_rfl)) xY) rF) tD) rH) (by kernel_rfl)) pI) tE) xW) aJo) (by kernel_rfl)) (by kernel_rfl)) xZ) aJn
