/- Several texts in one: VkpH for vltkeeps_law_holds. No conditions but those stated. -/
import Derived.Test.YtjdglpcnkiioeaaGreatVkb43
namespace Go.Proofs.YtjdglpcnkiioeaaGreat
open Go.ChangeShapes Go.WideShapes Go.ChangeAt Go.RowKit Go.Deep Go.Proofs.Own


set_option maxRecDepth 100000 in
theorem qY (os:Os) (started:os.Started) (H:Type) (enc:TypeId × Value -> H) :
  ReturnsInHanded {} Tryz.checked os 9 .any (Rows.vaultKeepsSpec.pre6 enc Tryz.prog Tryz.f9 Rows.vaultKeepsRow.domain false) (Rows.vaultKeepsSpec.post enc Tryz.prog Tryz.f9 false true false false):=by
 refine returnsInHanded_of_change (C:=Tryz.checked) own started (by kernel_rfl) Tryz.func9
  (ChangeSpec.witness6 (enc:=enc) (C:=Tryz.checked) false ⟨#[],#[.slice none 0 0,.int .u8 0,.slice none 0 0],[]⟩ 8 (by kernel_rfl) (by kernel_rfl) (by kernel_rfl) (by kernel_rfl)) ?_
 intro W base args ds gs before hval0 hW hcnd _
 have hval:∀ (j:Nat) t v,Tryz.f9.params[j]? = some t -> args[j]? = some v -> Value.okWide Tryz.prog W .any base t v:=hval0
 have hW':=hW
 obtain ⟨p,q,hA0,hV,_,hfz,hnd⟩:=hW
 have hA:DataW.TrodAll enc Tryz.prog W 0 (fun _=>true) true Tryz.f9.params.toList args.toList ds p:=hA0
 rw [Tryz.params9] at hA hval
 obtain ⟨v0,v1,v2,d0,d1,d2,p0,p1,p2,rfl,rfl,rfl,h0,h1,h2⟩:=trodAll_three hA
 obtain ⟨q0,n0,c0,rfl⟩:=okWide_slice Tryz.underlying101 (hval 0 101 v0 rfl rfl);obtain ⟨f0,g0⟩:=h0;obtain ⟨rs,b0⟩:=aGx (v:=.slice q0 n0 c0) g0
 obtain ⟨k1,rfl,b1⟩:=aJn (hval 1 5 v1 rfl rfl) h1
 obtain ⟨q2,n2,c2,rfl⟩:=okWide_slice Tryz.underlying24 (hval 2 24 v2 rfl rfl);obtain ⟨f2,g2⟩:=h2;obtain ⟨ts,b2⟩:=yU (v:=.slice q2 n2 c2) g2
 refine (aEz W _ _ k1 rs ts b0 b2 b1).mono fun e W' ⟨he,hb⟩=>?_
 exact ⟨_,he,aHX laid (by kernel_rfl) ⟨4,rfl,Tryz.underlying4⟩ rfl (fun ds hds=>by
  match ds,hds with
  | [x0,x1,x2],_=>rfl) hW' hb⟩

theorem vltkeeps_law_holds:Rows.VaultKeepsSaid :=
 OpenClaim.holds_of_wide 9 Tryz.f9 rfl rfl rfl rfl rfl rfl rfl ⟨rfl,rfl,rfl,rfl,rfl⟩ rfl rfl rfl rfl rfl (by kernel_rfl) Tryz.func9 (by kernel_rfl)
  (of_decide_eq_true (by kernel_rfl)) (by unfold Func.isWrapper;first | (rw [if_pos (by decide +kernel)];kernel_rfl) | (rw [if_neg (by decide +kernel)];exact ⟨rfl,rfl⟩))
  (fun os started H enc _=>qY os started H enc)
#print axioms vltkeeps_law_holds
end Go.Proofs.YtjdglpcnkiioeaaGreat
