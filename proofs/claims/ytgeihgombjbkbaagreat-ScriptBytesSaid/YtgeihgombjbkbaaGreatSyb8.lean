/- For scbytes_law_holds. -/
import Derived.WalkKit
import Derived.ProofKit
import Derived.OpenShut
import Derived.SizedLaws
import Derived.Carry
import Derived.Deep.Slices
import Derived.Deep.Fields
import Derived.ChangeSame
namespace Go.Proofs.Own
open Go Go.ChangeShapes Go.WideShapes Go.ChangeAt Go.RowKit Go.Deep

section
variable {H:Type} {enc:TypeId × Value->H} {P:Program}

theorem kY (hl:laidOutB P=true){W W':World}(hb:Below W.heap.size W W'):∀(ts:List TypeId) (vs:List Value) (ds:List (DataW H)) (ps:List MemPlace),
  (ts.all fun t=>P.readableRec t&&decide (t<P.types.size))=true->DataW.TrodAll enc P W 0 (fun _=>true) true ts vs ds ps->(∀x ∈ ps,x.block<W.heap.size) ->
  DataW.TrodAll enc P W' 0 (fun b=>decide (b<W.heap.size)) true ts vs ds ps
 | [],vs,ds,ps,_,h,_=>by
  obtain⟨rfl,rfl,rfl⟩:=trodAll_nil h;exact trodAll_mk0
 | t::ts,vs,ds,ps,hr,h,hlt=>by
  simp only[List.all_cons,Bool.and_eq_true,decide_eq_true_eq]at hr;obtain⟨⟨h1,h2⟩,h3⟩:=hr;obtain⟨v,vs',d,ds',p,q,rfl,rfl,rfl,h4,h5⟩:=trodAll_cons h;exact trodAll_cons_mk (Below.trod hl h1 h2 h4 hb fun x hx=>hlt x (List.mem_append_left _ hx)) (kY hl hb ts vs' ds' q (by simpa using h3) h5 fun x hx=>hlt x (List.mem_append_right _ hx))

theorem aH8 {f:Func}{s:ChangeSpec}(hl:laidOutB P=true)(hr:(f.params.toList.all fun t=>P.readableRec t&&decide (t<P.types.size))=true)(hrt:∃tb,f.resultTypes = #[tb]/\P.underlying tb=some .bool)(hvars:s.vars = [])
  (hs:∀ds:List (DataW H),ds.length=f.params.size->s.fn H ds = { results:=[.lit (.bool true)],args:=ds,vars:=[] }) {W W':World} {args:Array Value} {ds gs:List (DataW H)} {before:List MemPlace}
  (hW:DataW.Whole enc P f.params.toList s.vars false W args.toList ds gs before) (hb:Below W.heap.size W W'):s.post enc P f false true false false W args (.bool true) W':=by
 have hW':=hW;have hlt:∀p ∈ before,p.block<W.heap.size:=fun p hp=>hW.lt p hp;obtain⟨p,q,hA,hV,hbe,hfz,_⟩:=hW;rw[hvars]at hV;obtain⟨rfl,rfl⟩:=trodVars_none hV;have hlen:∀(ts:List TypeId) (vs:List Value) (ds:List (DataW H)) (ps:List MemPlace),DataW.TrodAll enc P W 0 (fun _=>true) true ts vs ds ps->ds.length=ts.length:=by
  intro ts
  induction ts with
  | nil=>intro vs ds ps h;obtain⟨_,rfl,_⟩:=trodAll_nil h;rfl
  | cons t ts ih=>intro vs ds ps h;obtain⟨_,vs',_,ds',_,q',_,rfl,_,_,h5⟩:=trodAll_cons h;simp[ih vs' ds' q' h5]
 have hfn:=hs ds (by rw[hlen _ _ _ _ hA];simp);obtain⟨tb,hrt,hub⟩:=hrt;refine⟨ds,[],before,[],p,[],hW',?_,?_,?_,hb.frame _,fun h=>by cases h⟩
 ·rw[List.append_nil,hfn,hrt];exact trodAll_cons_mk (shut_bool hub true) trodAll_mk0
 ·rw[List.append_nil,hfn];exact kY hl hb _ _ _ _ hr hA fun x hx=>hlt x (by rw[hbe];exact List.mem_append_left _ hx)
 ·rw[List.append_nil,hfn,hvars];rfl
end

section
variable {H:Type} {enc:TypeId × Value->H} {P:Program} {w:World} {base:Nat} {spare:Nat->Bool} {held:Bool}
end

theorem zM {w:World}{a:Addr}{v:Value}(h:w.cell? (a.add 0)=some v):a=⟨a.block,a.off,none⟩:=by
 obtain⟨b,o,s⟩:=a;cases s with
 | none=>rfl
 | some x =>
  simp only[Addr.add,if_true,World.cell?,Option.isSome_some]at h;split at h<;>simp at h
theorem aAk (a:Addr)(b o n:Nat)(h:a=⟨b,o,none⟩):a.add n=⟨b,o+n,none⟩:=by
 subst h;exact Addr.add_lit _ _ _
end Go.Proofs.Own
