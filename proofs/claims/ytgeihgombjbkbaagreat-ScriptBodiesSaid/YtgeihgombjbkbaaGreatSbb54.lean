/- For scbodies_law_holds. -/
import Derived.Test.YtgeihgombjbkbaaGreatChecked
import Derived.Test.YtgeihgombjbkbaaGreatSbb53
import Derived.Test.YtgeihgombjbkbaaGreatSbb45
set_option maxHeartbeats 16000000
set_option maxRecDepth 100000
namespace Go.Proofs.YtgeihgombjbkbaaGreat
open Go.ChangeShapes Go.WideShapes Go.ChangeAt Go.RowKit Go.Deep Go.Proofs.Own

theorem kO (os:Os)(started:os.Started)(H:Type)(enc:TypeId × Value->H) :
  ReturnsInHanded {} Tryz.checked os 4 .any (Rows.scriptBodiesSpec.pre6 enc Tryz.prog Tryz.f4 Rows.scriptBodiesRow.domain false) (Rows.scriptBodiesSpec.post enc Tryz.prog Tryz.f4 false true false false):=by
 refine returnsInHanded_of_change_sized (C:=Tryz.checked) own started (by kernel_rfl) Tryz.func4
  (ChangeSpec.witness6 (enc:=enc) (C:=Tryz.checked) false ⟨#[],#[.slice none 0 0,.slice none 0 0],[]⟩ 8 (by kernel_rfl) (by kernel_rfl) (by kernel_rfl) (by kernel_rfl)) ?_
 intro W base args ds gs before hval0 hW hcnd hsz _;have hval:∀(j:Nat) t v,Tryz.f4.params[j]? = some t->args[j]? = some v->Value.okWide Tryz.prog W .any base t v:=hval0;have hW':=hW;obtain⟨p,q,hA0,hV,_,hfz,hnd⟩:=hW;have hA:DataW.TrodAll enc Tryz.prog W 0 (fun _=>true) true Tryz.f4.params.toList args.toList ds p:=hA0;rw[Tryz.params4]at hA hval;obtain⟨v0,v1,d0,d1,p0,p1,rfl,rfl,rfl,h0,h1⟩:=trodAll_two hA;obtain⟨q0,n0,c0,rfl⟩:=okWide_slice Tryz.underlying22 (hval 0 22 v0 rfl rfl);obtain⟨f0,g0⟩:=h0;obtain⟨m0,b0⟩:=nC g0 (fun el sp he=>sized_slice hsz (j:=0) (t:=22) (e:=5) rfl (congrArg some he) Tryz.underlying22);obtain⟨q1,n1,c1,rfl⟩:=okWide_slice Tryz.underlying22 (hval 1 22 v1 rfl rfl);obtain⟨f1,g1⟩:=h1;obtain⟨m1,b1⟩:=nC g1 (fun el sp he=>sized_slice hsz (j:=1) (t:=22) (e:=5) rfl (congrArg some he) Tryz.underlying22);refine(tB q0 q1 n0 c0 n1 c1 W m0 m1 b0 b1).mono fun e W' ⟨he,hb⟩=>?_;exact⟨_,he,aIi laid (by kernel_rfl) ⟨4,rfl,Tryz.underlying4⟩ rfl (fun ds hds=>by
  match ds,hds with
  | [x0,x1],_=>rfl) hW' hb⟩

theorem scbodies_law_holds:Rows.ScriptBodiesSaid :=
 OpenClaim.holds_of_wide 4 Tryz.f4 rfl rfl rfl rfl rfl rfl rfl ⟨rfl,rfl,rfl,rfl,rfl⟩ rfl rfl rfl rfl rfl (by kernel_rfl) Tryz.func4 closed
  (of_decide_eq_true (by kernel_rfl)) (by unfold Func.isWrapper;first|(rw[if_pos (by decide +kernel)];kernel_rfl)|(rw[if_neg (by decide +kernel)];exact⟨rfl,rfl⟩))
  (fun os started H enc _=>kO os started H enc)
#print axioms scbodies_law_holds
end Go.Proofs.YtgeihgombjbkbaaGreat
