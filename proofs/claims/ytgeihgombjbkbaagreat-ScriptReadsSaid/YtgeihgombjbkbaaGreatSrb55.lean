/- For screads_law_holds. -/
import Derived.Test.YtgeihgombjbkbaaGreatChecked
import Derived.Test.YtgeihgombjbkbaaGreatSrb46
import Derived.Test.YtgeihgombjbkbaaGreatSrb54
set_option maxHeartbeats 16000000
set_option maxRecDepth 100000
namespace Go.Proofs.YtgeihgombjbkbaaGreat
open Go.ChangeShapes Go.WideShapes Go.ChangeAt Go.RowKit Go.Deep Go.Proofs.Own

theorem kR (os:Os)(started:os.Started)(H:Type)(enc:TypeId × Value->H) :
  ReturnsInHanded {} Tryz.checked os 3 .any (Rows.scriptReadsSpec.pre6 enc Tryz.prog Tryz.f3 Rows.scriptReadsRow.domain false) (Rows.scriptReadsSpec.post enc Tryz.prog Tryz.f3 false true false false):=by
 refine returnsInHanded_of_change_sized (C:=Tryz.checked) own started (by kernel_rfl) Tryz.func3
  (ChangeSpec.witness6 (enc:=enc) (C:=Tryz.checked) false ⟨#[],#[.slice none 0 0],[]⟩ 8 (by kernel_rfl) (by kernel_rfl) (by kernel_rfl) (by kernel_rfl)) ?_
 intro W base args ds gs before hval0 hW hcnd hsz _;have hval:∀(j:Nat) t v,Tryz.f3.params[j]? = some t->args[j]? = some v->Value.okWide Tryz.prog W .any base t v:=hval0;have hW':=hW;obtain⟨p,q,hA0,hV,_,hfz,hnd⟩:=hW;have hA:DataW.TrodAll enc Tryz.prog W 0 (fun _=>true) true Tryz.f3.params.toList args.toList ds p:=hA0;rw[Tryz.params3]at hA hval;obtain⟨v0,d0,rfl,rfl,h0⟩:=trodAll_one hA;obtain⟨q0,n0,c0,rfl⟩:=okWide_slice Tryz.underlying22 (hval 0 22 v0 rfl rfl);obtain⟨f0,g0⟩:=h0;obtain⟨m0,b0⟩:=sQ g0 (fun el sp he=>sized_slice hsz (j:=0) (t:=22) (e:=5) rfl (congrArg some he) Tryz.underlying22);refine(tL q0 n0 c0 W b0).mono fun e W' ⟨he,hb⟩=>?_;exact⟨_,he,aHf laid (by kernel_rfl) ⟨4,rfl,Tryz.underlying4⟩ rfl (fun ds hds=>by
  match ds,hds with
  | [x0],_=>rfl) hW' hb⟩

theorem screads_law_holds:Rows.ScriptReadsSaid :=
 OpenClaim.holds_of_wide 3 Tryz.f3 rfl rfl rfl rfl rfl rfl rfl ⟨rfl,rfl,rfl,rfl,rfl⟩ rfl rfl rfl rfl rfl (by kernel_rfl) Tryz.func3 closed
  (of_decide_eq_true (by kernel_rfl)) (by unfold Func.isWrapper;first|(rw[if_pos (by decide +kernel)];kernel_rfl)|(rw[if_neg (by decide +kernel)];exact⟨rfl,rfl⟩))
  (fun os started H enc _=>kR os started H enc)
#print axioms screads_law_holds
end Go.Proofs.YtgeihgombjbkbaaGreat
